import PyProof.Rows.All
import PySem.PyData
import PyProof.Lay0
import PyProof.EqLayable
import PyProof.P3Statements
import PyProof.Fits
import KE.LtData
import KE.SortData
import HandS.ForExc
import HandS.Lambda
import HandS.ExcValue
import HandS.Comp
import HandS.Dict
import HandS.ForMost
import HandS.Wide
import HandS.TupAny
import HandS.TupMul
import HandS.Deep
import HandS.Style
import HandS.Flow
import HandS.More
import HandS.IsInst
import HandS.RaiseMore
import HandS.ExcIs
import HandS.TupLen
import KE.KTupSum
import KE.KExcIs
import HandS.Iter
import HandS.Defaults
import HandS.Small
import HandS.Exc
import PyProof.ExcBaseAll.ValueError
import HandS.HeadHook4
import HandS.HeadWalk
import KE.KStateDown
import HandS.Head2
import HandS.HeadEnd
import PySem.Challenge.RW_pairsingles_k13_whole_squares
/- M1 -/
set_option linter.all false
/-! MINI 1: plain data, the mini syntax, its evaluation. Nothing here speaks of the model's heap. -/
namespace Mini
open PySem

/-- a plain value -/
inductive D where
  | non | bl (b : Bool) | int (i : Int) | str (x : Str)
  | tup (xs : List D) | lst (xs : List D)
  | dic (ks vs : List D)
  | fn (x : Str)
  | exc (c : Str) (pl : List D)
  | scr (ns : List Int)
deriving Inhabited

mutual
def D.py : D → PyData
  | .non => .none
  | .bl b => .bool b
  | .int i => .int i
  | .str x => .str x
  | .tup xs => .tuple (D.pyL xs)
  | .lst xs => .list (D.pyL xs)
  | .dic _ _ | .fn _ | .exc _ _ | .scr _ => .none
def D.pyL : List D → List PyData
  | [] => []
  | x :: xs => D.py x :: D.pyL xs
end
mutual
/-- made of None, truths, numbers, texts, tuples and lists alone -/
def D.plain : D → Bool
  | .non | .bl _ | .int _ | .str _ => true
  | .tup xs => D.plainL xs
  | .lst xs => D.plainL xs
  | .dic _ _ | .fn _ | .exc _ _ | .scr _ => false
def D.plainL : List D → Bool
  | [] => true
  | x :: xs => D.plain x && D.plainL xs
end
theorem D.pyL_map : ∀ xs : List D, D.pyL xs = xs.map D.py
  | [] => rfl
  | x :: xs => by rw [D.pyL, D.pyL_map xs, List.map_cons]
theorem D.plainL_all : ∀ xs : List D, D.plainL xs = xs.all D.plain
  | [] => rfl
  | x :: xs => by rw [D.plainL, D.plainL_all xs, List.all_cons]

/-- may be compared by == -/
def D.eqOk (d : D) : Bool := d.plain && SeqAt.shaped d.py
def D.eqv (d e : D) : Bool := PyData.eqv d.py e.py

/-- Python's truth of a value -/
def D.tru : D → Option Bool
  | .non => some false
  | .bl b => some b
  | .int i => some (i != 0)
  | .str x => if x.length ≤ 16777216 then some ((x.length : Int) != 0) else none
  | .tup xs => some (!xs.isEmpty)
  | .lst xs => some (!xs.isEmpty)
  | .dic ks _ => some (!ks.isEmpty)
  | .fn _ => none
  | .exc _ _ => none
  | .scr _ => none

/-! ### syntax -/
inductive Op2 where | add | sub | mul | fdiv | mod | pow
deriving DecidableEq
inductive CmpO where | eq | ne | lt | le | gt | ge | isN | notN | isIn | notIn
deriving DecidableEq
inductive Ty where | int | bool | str | tup | lst | dic | cls (x : Str)
deriving DecidableEq
inductive BI where | len | isi (t : Ty) | int | tuple | list | sorted | sum | all | min | max | abs | repr
deriving DecidableEq
inductive Tg where | sl (i : Nat) | tp (ts : List Tg)
mutual
def Tg.slots : Tg → List Nat
  | .sl i => [i]
  | .tp ts => Tg.slotsL ts
def Tg.slotsL : List Tg → List Nat
  | [] => []
  | t :: ts => t.slots ++ Tg.slotsL ts
end

inductive E where
  | slot (i : Nat)
  | lit (d : D)
  | glob (x : Str)
  | op (o : Op2) (a b : E)
  | neg (a : E) | notE (a : E) | andE (a b : E) | orE (a b : E)
  | cmp (c : CmpO) (a b : E)
  | chain (c1 c2 : CmpO) (a b c : E)
  | ite (c a b : E)
  | tup (st : List Bool) (es : List E)
  | lst (st : List Bool) (es : List E)
  | dict (ks vs : List E)
  | idx (a i : E) | slice (a lo hi : E) | rev (a : E)
  | call (f : Str) (as : List E) (ks : List Str) (ws : List E)
  | callv (i : Nat) (fs : List Str) (as : List E)
  | bi (b : BI) (as : List E)
  | app (i : Nat) (a : E) | pop (i : Nat)
  | comp (own : List Nat) (tg : Tg) (it : E) (ifs : List E) (elt : E)
  | comp2 (own own2 : List Nat) (tg : Tg) (it : E) (ifs : List E) (tg2 : Tg) (it2 : E) (ifs2 : List E) (elt : E)
  | range (es : List E) | enum (a : E) | zip (es : List E)
  | caught (e : E)
  | attr (a : E) (x : Str)
  | never

inductive S where
  | set (i : Nat) (e : E)
  | setT (ts : List Nat) (e : E)
  | setP (ts : List Nat) (es : List E)
  | seti (i : Nat) (k e : E)
  | swap (i : Nat) (k1 k2 e1 e2 : E)
  | aug (i : Nat) (o : Op2) (e : E)
  | expr (e : E) | ret (e : E) | retN
  | ifs (c : E) (a b : List S)
  | forS (tg : Tg) (it : E) (body : List S)
  | whl (c : E) (body : List S)
  | raise (x : Str) (as : List E)
  | brk | cont | pass | never

/-! ### evaluation -/
inductive RV where | val (d : D) | own (d : D)
def RV.d : RV → D
  | .val d => d
  | .own d => d
/-- a name's content: a value; a list or dict that is this def's alone; one that the caller lent; one that a loop walks -/
inductive Slot where | no | val (d : D) | own (d : D) | ref (d : D) | lk (d : D)
deriving Inhabited
def Slot.d? : Slot → Option D
  | .no => none
  | .val d | .own d | .ref d | .lk d => some d
abbrev Env := List Slot
inductive Res (α : Type) where
  | ok (a : α) (ρ : Env)
  | ex (c : Str) (pl : List D) (ρ : Env)
  | bad
def Res.bind {α β : Type} : Res α → (α → Env → Res β) → Res β
  | .ok a ρ, f => f a ρ
  | .ex c pl ρ, _ => .ex c pl ρ
  | .bad, _ => .bad
def Res.of {α : Type} : Option α → Env → Res α
  | some a, ρ => .ok a ρ
  | none, _ => .bad
@[simp] theorem Res.bind_ok {α β : Type} (a : α) (ρ : Env) (f : α → Env → Res β) : (Res.ok a ρ).bind f = f a ρ := rfl
@[simp] theorem Res.bind_ex {α β : Type} (c : Str) (pl : List D) (ρ : Env) (f : α → Env → Res β) : (Res.ex c pl ρ : Res α).bind f = .ex c pl ρ := rfl
@[simp] theorem Res.bind_bad {α β : Type} (f : α → Env → Res β) : (Res.bad : Res α).bind f = .bad := rfl
@[simp] theorem Res.of_some {α : Type} (a : α) (ρ : Env) : Res.of (some a) ρ = .ok a ρ := rfl

inductive CRes where
  | ok (r : RV) (outs : List D)
  | ex (c : Str) (pl : List D) (outs : List D)
  | bad
/-- what a program is to its defs' bodies -/
structure Ifc where
  call : Str → List D → CRes
  ino : Str → List Bool
  pars : Str → List Str
  dfl : Str → List D
  glob : Str → Option D
  sub : Str → Str → Bool
  fuel : Nat

/-- the value of a name taken as a value: a list of one's own is one's own no longer -/
def take (i : Nat) (ρ : Env) : Res D := match ρ[i]? with
  | some (.val d) => .ok d ρ
  | some (.own d) => .ok d (ρ.set i (.val d))
  | _ => .bad
/-- what stands at a name, to be looked at -/
def look (i : Nat) (ρ : Env) : Option D := (ρ[i]?).bind Slot.d?
/-- a name is given a value -/
def put (i : Nat) (r : RV) (ρ : Env) : Option Env := match ρ[i]? with
  | some (.no) | some (.val _) | some (.own _) => some (ρ.set i (match r with | .val d => .val d | .own d => .own d))
  | _ => none
/-- the list or dict at a name is changed -/
def change (i : Nat) (d : D) (ρ : Env) : Option Env := match ρ[i]? with
  | some (.own _) => some (ρ.set i (.own d))
  | some (.ref _) => some (ρ.set i (.ref d))
  | _ => none
/-- what may be changed at a name -/
def owned (i : Nat) (ρ : Env) : Option D := match ρ[i]? with
  | some (.own d) => some d
  | some (.ref d) => some d
  | _ => none

mutual
def asg : Tg → D → Env → Option Env
  | .sl i, d, ρ => put i (.val d) ρ
  | .tp ts, .tup ds, ρ => asgs ts ds ρ
  | .tp _, _, _ => none
def asgs : List Tg → List D → Env → Option Env
  | [], [], ρ => some ρ
  | t :: ts, d :: ds, ρ => (asg t d ρ).bind (asgs ts ds)
  | _, _, _ => none
end

/-- an argument, an operand: a name's place, or a value -/
inductive Opd where | sl (i : Nat) | v (d : D) | t (d : D)
def fetch (ρ : Env) : Opd → Option D
  | .sl i => look i ρ
  | .v d => some d
  | .t d => some d
def fetchAll (ρ : Env) : List Opd → Option (List D)
  | [] => some []
  | o :: os => (fetch ρ o).bind fun d => (fetchAll ρ os).map (d :: ·)

/-- numbers whose product the machine makes without a look at its room -/
def mulOk (a b : Int) : Bool := !(decide (Builtin.Int.intBits a > shortFactorBits) && decide (Builtin.Int.intBits b > shortFactorBits) && Builtin.Int.intTooBig (Builtin.Int.intBits a + Builtin.Int.intBits b))
def line : Nat := 16777216
def repL (xs : List D) (n : Nat) : List D := (List.replicate n xs).flatten
def op2 : Op2 → D → D → Option RV
  | .add, .int a, .int b => some (.val (.int (a + b)))
  | .add, .tup xs, .tup ys => if xs.length + ys.length ≤ line then some (.val (.tup (xs ++ ys))) else none
  | .add, .lst xs, .lst ys => if xs.length + ys.length ≤ line then some (.own (.lst (xs ++ ys))) else none
  | .sub, .int a, .int b => some (.val (.int (a - b)))
  | .mul, .int a, .int b => if mulOk a b then some (.val (.int (a * b))) else none
  | .mul, .tup xs, .int k => if k ≤ 1000 ∧ -1000 ≤ k ∧ xs.length ≤ 1000 then some (.val (.tup (repL xs k.toNat))) else none
  | .mul, .lst xs, .int k => if k ≤ 10000 ∧ -10000 ≤ k ∧ xs.length * k.toNat ≤ line then some (.own (.lst (repL xs k.toNat))) else none
  | .fdiv, .int a, .int b => if 0 < b ∧ b.natAbs.log2 < 9000 then some (.val (.int (a / b))) else none
  | .mod, .int a, .int b => if 0 < b then some (.val (.int (a % b))) else none
  | .pow, .int a, .int b => if 0 ≤ b ∧ b ≤ 1000000 ∧ a.natAbs < 2 ^ 64 then some (.val (.int (a ^ b.toNat))) else none
  | _, _, _ => none

/-- ints of a tuple -/
def intsOf : List D → Option (List Int)
  | [] => some []
  | .int i :: r => (intsOf r).map (i :: ·)
  | _ :: _ => none
def lexLt : List Int → List Int → Bool
  | [], [] => false
  | [], _ :: _ => true
  | _ :: _, [] => false
  | a :: as, b :: bs => if a = b then lexLt as bs else decide (a < b)
/-- x in xs -/
def isIn (d : D) (xs : List D) : Bool := xs.any fun x => D.eqv x d
def inOk (d : D) (xs : List D) : Bool := d.eqOk && (D.lst xs).eqOk
def D.isN : D → Bool
  | .non => true
  | _ => false
def cmp : CmpO → D → D → Option Bool
  | .eq, a, b => if a.eqOk && b.eqOk then some (D.eqv a b) else none
  | .ne, a, b => if a.eqOk && b.eqOk then some (!D.eqv a b) else none
  | .lt, .int a, .int b => some (decide (a < b))
  | .le, .int a, .int b => some (decide (a ≤ b))
  | .gt, .int a, .int b => some (decide (b < a))
  | .ge, .int a, .int b => some (decide (b ≤ a))
  | .lt, .tup xs, .tup ys => (intsOf xs).bind fun as => (intsOf ys).map fun bs => lexLt as bs
  | .isN, a, .non => some a.isN
  | .notN, a, .non => some (!a.isN)
  | .isIn, d, .tup xs => if inOk d xs then some (isIn d xs) else none
  | .isIn, d, .lst xs => if inOk d xs then some (isIn d xs) else none
  | .notIn, d, .tup xs => if inOk d xs then some (!isIn d xs) else none
  | .notIn, d, .lst xs => if inOk d xs then some (!isIn d xs) else none
  | _, _, _ => none

/-- xs[i] -/
def atI (xs : List D) (i : Int) : Option D := if 0 ≤ i then xs[i.toNat]? else if -(xs.length : Int) ≤ i then xs[(xs.length + i).toNat]? else none
/-- a slice's end, brought into 0 .. n -/
def clip (n : Nat) (dflt : Nat) : Option Int → Nat
  | none => dflt
  | some i => if i < 0 then (i + n).toNat else min i.toNat n
def cut (xs : List D) (lo hi : Option Int) : List D := (xs.drop (clip xs.length 0 lo)).take (clip xs.length xs.length hi - clip xs.length 0 lo)
def optI : D → Option (Option Int)
  | .non => some none
  | .int i => some (some i)
  | _ => none
def slice (a : D) (l h : Option Int) : Option RV := match a with
  | .tup xs => some (.val (.tup (cut xs l h)))
  | .lst xs => some (.own (.lst (cut xs l h)))
  | _ => none
def rev : D → Option RV
  | .tup xs => some (.val (.tup xs.reverse))
  | .lst xs => some (.own (.lst xs.reverse))
  | _ => none
/-- keys of dicts: texts and numbers -/
def keyEq : D → D → Bool
  | .str a, .str b => decide (a = b)
  | .int a, .int b => decide (a = b)
  | _, _ => false
def keyOk : D → Bool
  | .str _ => true
  | .int _ => true
  | _ => false
def getK : List D → List D → D → Option D
  | x :: ks, v :: vs, k => if keyEq x k then some v else getK ks vs k
  | _, _, _ => none
def setK : List D → List D → D → D → List D
  | x :: ks, v :: vs, k, d => (if keyEq x k then d else v) :: setK ks vs k d
  | _, _, _, _ => []
def hasK (ks : List D) (k : D) : Bool := ks.any fun x => keyEq x k
/-- what d[k] = v makes of keys and values -/
def putKV (ks vs : List D) (k d : D) : List D × List D := if hasK ks k then (ks, setK ks vs k d) else (ks ++ [k], vs ++ [d])
def mergeKV : List D → List D → List D → List D → List D × List D
  | ks, vs, k :: ks2, v :: vs2 => mergeKV (putKV ks vs k v).1 (putKV ks vs k v).2 ks2 vs2
  | ks, vs, _, _ => (ks, vs)
def idx : D → D → Option D
  | .tup xs, .int i => atI xs i
  | .lst xs, .int i => atI xs i
  | .dic ks vs, k => if keyOk k then getK ks vs k else none
  | _, _ => none

/-- the order of sorted: bools, numbers, texts, tuples, lists of alike places -/
def sortOk (xs : List D) : Bool := xs.all (fun x => x.plain && decide (x.py.depth ≤ 60)) && xs.all (fun x => xs.all fun y => W.alike x.py y.py) &&
  ((decide (xs.length ≤ 1) && xs.all fun x => match x with | .non => false | _ => true) || xs.all (fun x => match x with | .tup (_ :: _) => true | _ => false) || xs.all (fun x => match x with | .non | .tup _ => false | _ => true)) && decide (xs.length ≤ line)
def dLe (x y : D) : Bool := !W.dataLt y.py x.py
def sortD (xs : List D) : List D := xs.mergeSort dLe
def sumI : List D → Option Int
  | [] => some 0
  | .int i :: r => (sumI r).map (i + ·)
  | _ :: _ => none
def sumB : List D → Option Int
  | [] => some 0
  | .int i :: r => (sumB r).map (i + ·)
  | .bl b :: r => (sumB r).map ((if b then 1 else 0) + ·)
  | _ :: _ => none
def allB : List D → Option Bool
  | [] => some true
  | .bl b :: r => (allB r).map (b && ·)
  | _ :: _ => none
def flat : List D → Option (List D)
  | [] => some []
  | .lst xs :: r => (flat r).map (xs ++ ·)
  | _ :: _ => none
def D.base : D → Bool
  | .non | .bl _ | .int _ | .str _ | .tup _ | .lst _ | .dic _ _ => true
  | _ => false
/-- isinstance is known of it -/
def Ty.ok (F : Ifc) : Ty → D → Bool
  | .cls _, .exc c _ => F.sub c c
  | _, d => d.base
def Ty.is (F : Ifc) : Ty → D → Bool
  | .int, .int _ => true
  | .int, .bl _ => true
  | .bool, .bl _ => true
  | .str, .str _ => true
  | .tup, .tup _ => true
  | .lst, .lst _ => true
  | .dic, .dic _ _ => true
  | .cls x, .exc c _ => F.sub c x
  | _, _ => false
def bi (F : Ifc) : BI → List D → Option RV
  | .len, [.tup xs] => some (.val (.int xs.length))
  | .len, [.lst xs] => some (.val (.int xs.length))
  | .len, [.scr ns] => some (.val (.int ns.length))
  | .len, [.dic ks _] => some (.val (.int ks.length))
  | .isi t, [d] => if t.ok F d then some (.val (.bl (t.is F d))) else none
  | .int, [.int i] => some (.val (.int i))
  | .int, [.bl b] => some (.val (.int (if b then 1 else 0)))
  | .tuple, [.lst xs] => some (.val (.tup xs))
  | .tuple, [.tup xs] => some (.val (.tup xs))
  | .list, [.lst xs] => some (.own (.lst xs))
  | .list, [.tup xs] => some (.own (.lst xs))
  | .sorted, [.lst xs] => if sortOk xs then some (.own (.lst (sortD xs))) else none
  | .sum, [.lst xs] => (sumI xs).map fun i => .val (.int i)
  | .sum, [.tup xs] => (sumI xs).map fun i => .val (.int i)
  | .sum, [.lst xs, .lst []] => (flat xs).bind fun ys => if ys.length ≤ line then some (.own (.lst ys)) else none
  | .all, [.lst xs] => (allB xs).map fun b => .val (.bl b)
  | .min, [.int a, .int b] => some (.val (.int (if b < a then b else a)))
  | .max, [.int a, .int b] => some (.val (.int (if b > a then b else a)))
  | .abs, [.int a] => some (.val (.int (if a < 0 then -a else a)))
  | .repr, [.non] => some (.val (.str "None"))
  | .repr, [.bl b] => some (.val (.str (if b then "True" else "False")))
  | _, _ => none

def rangeI (lo : Int) (n : Nat) : List D := (List.range n).map fun (k : Nat) => .int (lo + (k : Int))
def rangeS (lo c : Int) (n : Nat) : List D := (List.range n).map fun (k : Nat) => .int (lo + (k : Int) * c)
def big : Int := 2 ^ 62
def within (i : Int) : Bool := decide (-big ≤ i) && decide (i < big)
def rangeD : List D → Option (List D)
  | [.int n] => if within n then some (rangeI 0 n.toNat) else none
  | [.int a, .int b] => if within a && within b then some (rangeI a (b - a).toNat) else none
  | [.int a, .int b, .int (-1)] => if within a && within b then some (rangeS a (-1) (a - b).toNat) else none
  | _ => none
def seqOf : D → Option (List D)
  | .tup xs => some xs
  | .scr ns => some (ns.map .int)
  | .lst xs => some xs
  | _ => none
def seqTL : D → Option (List D)
  | .tup xs => some xs
  | .lst xs => some xs
  | _ => none
def enumD (xs : List D) : List D := (xs.zipIdx).map fun p => .tup [.int p.2, p.1]
def zip2 : List D → List D → List D
  | x :: xs, y :: ys => .tup [x, y] :: zip2 xs ys
  | _, _ => []

/-- positional arguments, keywords and defaults in the parameters' order -/
def arrange (ps : List Str) (dfl : List α) (pos : List α) (ks : List Str) (ws : List α) : Option (List α) :=
  let rest := ps.drop pos.length
  let dn := ps.length - dfl.length
  if pos.length ≤ ps.length ∧ ks.all (fun k => rest.contains k) then
    (rest.zipIdx pos.length).foldr (fun (p : Str × Nat) acc => acc.bind fun acc => match (ks.zip ws).lookup p.1 with
      | some w => some (w :: acc)
      | none => if dn ≤ p.2 then (dfl[p.2 - dn]?).map (· :: acc) else none) (some []) |>.map (pos ++ ·)
  else none
/-- the lent ones' new contents -/
def putOuts : List Bool → List D → List D → List D
  | true :: bs, _ :: ds, o :: os => o :: putOuts bs ds os
  | false :: bs, d :: ds, os => d :: putOuts bs ds os
  | _, ds, _ => ds
/-- lent lists come back -/
def giveBack : List Opd → List Bool → List D → Env → Option Env
  | .sl i :: os, true :: bs, d :: ds, ρ => (change i d ρ).bind (giveBack os bs ds)
  | _ :: os, false :: bs, ds, ρ => giveBack os bs ds ρ
  | [], [], [], ρ => some ρ
  | _, _, _, _ => none
/-- the lent ones are owned, each once -/
def lentOk (ρ : Env) : List Opd → List Bool → List Nat → Bool
  | .sl i :: os, true :: bs, seen => (owned i ρ).isSome && !seen.contains i && lentOk ρ os bs (i :: seen)
  | .v _ :: os, false :: bs, seen => lentOk ρ os bs seen
  | [], [], _ => true
  | _, _, _ => false
def callF (F : Ifc) (f : Str) (os : List Opd) (ρ : Env) : Res RV :=
  if lentOk ρ os (F.ino f) [] then
    match fetchAll ρ os with
    | none => .bad
    | some ds => match F.call f ds with
      | .ok r outs => Res.bind (Res.of (giveBack os (F.ino f) outs ρ) ρ) fun ρ' _ => .ok r ρ'
      | .ex c pl outs => Res.bind (Res.of (giveBack os (F.ino f) outs ρ) ρ) fun ρ' _ => .ex c pl ρ'
      | .bad => .bad
  else .bad

/-- places wiped, and put back as they were -/
def wipeE (ρ : Env) : List Nat → Env
  | [] => ρ
  | i :: is => (wipeE ρ is).set i .no
def backE (ρ₀ ρ : Env) : List Nat → Env
  | [] => ρ
  | i :: is => (backE ρ₀ ρ is).set i (ρ₀[i]?.getD .no)
def blockOk (ρ : Env) (own : List Nat) : Bool := own.all fun i => match ρ[i]? with
  | some (.no) | some (.val _) => true
  | _ => false

/-- the turns of a comprehension -/
def turns (step : D → Env → Res (List D)) : List D → Env → Res (List D)
  | [], ρ => .ok [] ρ
  | x :: xs, ρ => (step x ρ).bind fun ys ρ => (turns step xs ρ).bind fun zs ρ => .ok (ys ++ zs) ρ

abbrev Den (α : Type) := Env → Res α
/-- as a value that may be kept by others -/
def vV (f : Den RV) : Den D := fun ρ => (f ρ).bind fun r ρ => .ok r.d ρ
/-- as something to be looked at alone -/
def vO (e : E) (f : Den RV) : Den Opd := match e with
  | .slot i => fun ρ => if (look i ρ).isSome then .ok (.sl i) ρ else .bad
  | _ => fun ρ => (f ρ).bind fun r ρ => .ok (.v r.d) ρ
/-- as an end of a slice -/
def vP (f : Den RV) : Den (Option Int) := fun ρ => (vV f ρ).bind fun d ρ => Res.of (optI d) ρ
/-- as something that is lent: a name's list, or a new one -/
def vL (e : E) (f : Den RV) : Den Opd := match e with
  | .slot i => fun ρ => if (owned i ρ).isSome then .ok (.sl i) ρ else .bad
  | _ => fun _ => .bad
/-- as a test -/
def vT (e : E) (f : Den RV) : Den Bool := fun ρ => (vO e f ρ).bind fun o ρ => Res.of ((fetch ρ o).bind D.tru) ρ
def vVs : List (Den RV) → Den (List D)
  | [], ρ => .ok [] ρ
  | f :: fs, ρ => (vV f ρ).bind fun d ρ => (vVs fs ρ).bind fun ds ρ => .ok (d :: ds) ρ
def vOs : List E → List (Den RV) → Den (List Opd)
  | e :: es, f :: fs, ρ => (vO e f ρ).bind fun d ρ => (vOs es fs ρ).bind fun ds ρ => .ok (d :: ds) ρ
  | _, _, ρ => .ok [] ρ
/-- items, those with a star spread out -/
def spr : List Bool → List (Den RV) → Den (List D)
  | [], [], ρ => .ok [] ρ
  | false :: st, f :: fs, ρ => (vV f ρ).bind fun d ρ => (spr st fs ρ).bind fun ds ρ => .ok (d :: ds) ρ
  | true :: st, f :: fs, ρ => (vV f ρ).bind fun d ρ => (Res.of (seqTL d) ρ).bind fun xs ρ => (spr st fs ρ).bind fun ds ρ => .ok (xs ++ ds) ρ
  | _, _, _ => .bad
/-- arguments: the lent ones by their places -/
def vAs : List Bool → List E → List (Den RV) → Den (List Opd)
  | true :: bs, e :: es, f :: fs, ρ => (vL e f ρ).bind fun o ρ => (vAs bs es fs ρ).bind fun os ρ => .ok (o :: os) ρ
  | false :: bs, e :: es, f :: fs, ρ => (vV f ρ).bind fun d ρ => (vAs bs es fs ρ).bind fun os ρ => .ok (.v d :: os) ρ
  | _, [], _, ρ => .ok [] ρ
  | _, _, _, _ => .bad
def vKV : List (Den RV) → List (Den RV) → Den (List D × List D)
  | k :: ks, v :: vs, ρ => (vV k ρ).bind fun k ρ => (vV v ρ).bind fun v ρ => (vKV ks vs ρ).bind fun p ρ => .ok (k :: p.1, v :: p.2) ρ
  | [], [], ρ => .ok ([], []) ρ
  | _, _, _ => .bad
def vTs : List E → List (Den RV) → Den Bool
  | e :: es, f :: fs, ρ => (vT e f ρ).bind fun k ρ => if k then vTs es fs ρ else .ok false ρ
  | _, _, ρ => .ok true ρ
/-- the names that a walk looks at -/
def walked : E → List Nat
  | .slot i => [i]
  | .enum (.slot i) => [i]
  | .zip [.slot i, .slot j] => [i, j]
  | .zip [.slot i, _] => [i]
  | .zip [_, .slot j] => [j]
  | _ => []
def lock1 (i : Nat) (ρ : Env) : Env := match ρ[i]? with
  | some (.own d) => ρ.set i (.lk d)
  | some (.ref d) => ρ.set i (.lk d)
  | _ => ρ
def lock (is : List Nat) (ρ : Env) : Env := is.foldr lock1 ρ
def unlock1 (ρ₀ : Env) (i : Nat) (ρ : Env) : Env := match ρ₀[i]? with
  | some (.own d) => ρ.set i (.own d)
  | some (.ref d) => ρ.set i (.ref d)
  | _ => ρ
def unlock (ρ₀ : Env) (is : List Nat) (ρ : Env) : Env := is.foldr (unlock1 ρ₀) ρ
/-- what is walked -/
def vIt (e : E) (f : Den RV) : Den (List D) := fun ρ => (vO e f ρ).bind fun o ρ => Res.of ((fetch ρ o).bind seqOf) ρ
/-- a block lets no exception out -/
def Res.calm {α : Type} : Res α → Res α
  | .ok a ρ => .ok a ρ
  | _ => .bad
@[simp] theorem Res.calm_ok {α : Type} (a : α) (ρ : Env) : (Res.ok a ρ).calm = .ok a ρ := rfl
/-- one item of a comprehension -/
def item (tg : Tg) (own : List Nat) (ifs : List E) (fi : List (Den RV)) (go : Den (List D)) (x : D) : Den (List D) := fun ρ =>
  (Res.of (asg tg x (wipeE ρ own)) ρ).bind fun ρ _ => (vTs ifs fi ρ).bind fun k ρ => if k then go ρ else .ok [] ρ

/-- a truth -/
def lastB : RV → Den RV
  | .val (.bl k), ρ => .ok (.val (.bl k)) ρ
  | _, _ => .bad
mutual
def denE (F : Ifc) : E → Den RV
  | .slot i => fun ρ => (take i ρ).bind fun d ρ => .ok (.val d) ρ
  | .lit d => fun ρ => .ok (.val d) ρ
  | .glob x => fun ρ => (Res.of (F.glob x) ρ).bind fun d ρ => .ok (.val d) ρ
  | .op o a b => fun ρ => (vO a (denE F a) ρ).bind fun x ρ => (vO b (denE F b) ρ).bind fun y ρ => Res.of ((fetch ρ x).bind fun x => (fetch ρ y).bind fun y => op2 o x y) ρ
  | .neg a => fun ρ => (vO a (denE F a) ρ).bind fun x ρ => Res.of ((fetch ρ x).bind fun | .int i => some (.val (.int (-i))) | _ => none) ρ
  | .notE a => fun ρ => (vO a (denE F a) ρ).bind fun x ρ => Res.of ((fetch ρ x).bind fun x => x.tru.map fun b => .val (.bl (!b))) ρ
  | .andE a b => fun ρ => (denE F a ρ).bind fun r ρ => match r with
    | .val (.bl true) => (denE F b ρ).bind lastB
    | .val (.bl false) => .ok (.val (.bl false)) ρ
    | _ => .bad
  | .orE a b => fun ρ => (denE F a ρ).bind fun r ρ => match r with
    | .val (.bl false) => (denE F b ρ).bind lastB
    | .val (.bl true) => .ok (.val (.bl true)) ρ
    | _ => .bad
  | .cmp c a b => fun ρ => (vO a (denE F a) ρ).bind fun x ρ => (vO b (denE F b) ρ).bind fun y ρ => Res.of ((fetch ρ x).bind fun x => (fetch ρ y).bind fun y => (cmp c x y).map fun b => .val (.bl b)) ρ
  | .chain c1 c2 a b c => fun ρ => (vO a (denE F a) ρ).bind fun x ρ => (vO b (denE F b) ρ).bind fun y ρ => (Res.of ((fetch ρ x).bind fun x => (fetch ρ y).bind fun y => cmp c1 x y) ρ).bind fun k ρ =>
      if k then (vO c (denE F c) ρ).bind fun z ρ => Res.of ((fetch ρ y).bind fun y => (fetch ρ z).bind fun z => (cmp c2 y z).map fun b => .val (.bl b)) ρ else .ok (.val (.bl false)) ρ
  | .ite c a b => fun ρ => (vT c (denE F c) ρ).bind fun k ρ => if k then (vV (denE F a) ρ).bind fun d ρ => .ok (.val d) ρ else (vV (denE F b) ρ).bind fun d ρ => .ok (.val d) ρ
  | .tup st es => fun ρ => (spr st (denL F es) ρ).bind fun xs ρ => if xs.length ≤ line then .ok (.val (.tup xs)) ρ else .bad
  | .lst st es => fun ρ => (spr st (denL F es) ρ).bind fun xs ρ => if xs.length ≤ line then .ok (.own (.lst xs)) ρ else .bad
  | .dict ks vs => fun ρ => (vKV (denL F ks) (denL F vs) ρ).bind fun p ρ => if p.1.all keyOk && decide (p.1.length ≤ 15) then .ok (.own (.dic (mergeKV [] [] p.1 p.2).1 (mergeKV [] [] p.1 p.2).2)) ρ else .bad
  | .idx a i => fun ρ => (vO a (denE F a) ρ).bind fun x ρ => (vV (denE F i) ρ).bind fun y ρ => Res.of ((fetch ρ x).bind fun x => (idx x y).map .val) ρ
  | .slice a l h => fun ρ => (vO a (denE F a) ρ).bind fun x ρ => (vP (denE F l) ρ).bind fun l ρ => (vP (denE F h) ρ).bind fun h ρ => Res.of ((fetch ρ x).bind fun x => slice x l h) ρ
  | .rev a => fun ρ => (vO a (denE F a) ρ).bind fun x ρ => Res.of ((fetch ρ x).bind rev) ρ
  | .call f as ks ws => fun ρ => (vAs (F.ino f) as (denL F as) ρ).bind fun os ρ => (vVs (denL F ws) ρ).bind fun ws ρ => (Res.of (arrange (F.pars f) ((F.dfl f).map .v) os ks (ws.map .v)) ρ).bind fun os ρ => callF F f os ρ
  | .callv i fs as => fun ρ => match look i ρ with
    | some (.fn f) => if fs.contains f = false then .bad else (vVs (denL F as) ρ).bind fun ds ρ => (Res.of (arrange (F.pars f) ((F.dfl f).map .v) (ds.map .v) [] []) ρ).bind fun os ρ => callF F f os ρ
    | _ => .bad
  | .bi b as => fun ρ => (vOs as (denL F as) ρ).bind fun os ρ => Res.of ((fetchAll ρ os).bind (bi F b)) ρ
  | .app i a => fun ρ => match owned i ρ with
    | some (.lst _) => (vV (denE F a) ρ).bind fun d ρ => (match owned i ρ with
      | some (.lst xs) => if xs.length < line then (Res.of (change i (.lst (xs ++ [d])) ρ) ρ).bind fun ρ' _ => .ok (.val .non) ρ' else .bad
      | _ => .bad)
    | _ => .bad
  | .pop i => fun ρ => match owned i ρ with
    | some (.lst xs) => match xs.getLast? with
      | some d => (Res.of (change i (.lst xs.dropLast) ρ) ρ).bind fun ρ' _ => .ok (.val d) ρ'
      | none => .bad
    | _ => .bad
  | .comp own tg it ifs elt => fun ρ => (vIt it (denE F it) ρ).bind fun xs ρ => if blockOk ρ own then
      (turns (item tg own ifs (denL F ifs) fun ρ => (vV (denE F elt) ρ).bind fun d ρ => .ok [d] ρ) xs (lock (walked it) ρ)).calm.bind
        fun ys ρ' => if ys.length ≤ line then .ok (.own (.lst ys)) (unlock ρ (walked it) (backE ρ ρ' own)) else .bad
      else .bad
  | .comp2 own own2 tg it ifs tg2 it2 ifs2 elt => fun ρ => (vIt it (denE F it) ρ).bind fun xs ρ => if blockOk ρ own then
      (turns (item tg own ifs (denL F ifs) fun ρ₁ => (vIt it2 (denE F it2) ρ₁).bind fun ys ρ₁ =>
          if blockOk ρ₁ own2 then (turns (item tg2 own2 ifs2 (denL F ifs2) fun ρ => (vV (denE F elt) ρ).bind fun d ρ => .ok [d] ρ) ys (lock (walked it2) ρ₁)).bind fun zs ρ₂ => .ok zs (unlock ρ₁ (walked it2) (wipeE ρ₂ own2)) else .bad) xs (lock (walked it) ρ)).calm.bind
        fun ys ρ' => if ys.length ≤ line then .ok (.own (.lst ys)) (unlock ρ (walked it) (backE ρ ρ' own)) else .bad
      else .bad
  | .caught e => fun ρ => match denE F e ρ with
    | .ok _ ρ => .ok (.val .non) ρ
    | .ex c pl ρ => if F.sub c "StepError" then .ok (.val (.exc c pl)) ρ else .bad
    | .bad => .bad
  | .attr a x => fun ρ => (vO a (denE F a) ρ).bind fun d ρ => Res.of ((fetch ρ d).bind fun
    | .exc c [v] => if c = "TooMany" ∧ x = "most" then some (.val v) else none
    | _ => none) ρ
  | .range es => fun ρ => (vVs (denL F es) ρ).bind fun ds ρ => Res.of ((rangeD ds).map fun xs => .val (.lst xs)) ρ
  | .enum a => fun ρ => (vO a (denE F a) ρ).bind fun o ρ => Res.of ((fetch ρ o).bind fun d => (seqOf d).map fun xs => .val (.lst (enumD xs))) ρ
  | .zip es => fun ρ => (vOs es (denL F es) ρ).bind fun os ρ => Res.of ((fetchAll ρ os).bind fun
    | [x, y] => (seqOf x).bind fun xs => (seqOf y).map fun ys => .val (.lst (zip2 xs ys))
    | _ => none) ρ
  | .never => fun _ => .bad
def denL (F : Ifc) : List E → List (Den RV)
  | [] => []
  | e :: es => denE F e :: denL F es
end

/-! ### statements -/
inductive SRes where
  | nx (ρ : Env) | rt (r : RV) (ρ : Env) | bk (ρ : Env) | ct (ρ : Env)
  | ex (c : Str) (pl : List D) (ρ : Env)
  | bad
def Res.to {α : Type} : Res α → (α → Env → SRes) → SRes
  | .ok a ρ, f => f a ρ
  | .ex c pl ρ, _ => .ex c pl ρ
  | .bad, _ => .bad
def SRes.then : SRes → (Env → SRes) → SRes
  | .nx ρ, f => f ρ
  | r, _ => r
@[simp] theorem Res.to_ok {α : Type} (a : α) (ρ : Env) (f : α → Env → SRes) : (Res.ok a ρ).to f = f a ρ := rfl
@[simp] theorem Res.to_ex {α : Type} (c : Str) (pl : List D) (ρ : Env) (f : α → Env → SRes) : (Res.ex c pl ρ : Res α).to f = .ex c pl ρ := rfl
@[simp] theorem SRes.then_nx (ρ : Env) (f : Env → SRes) : (SRes.nx ρ).then f = f ρ := rfl
@[simp] theorem SRes.then_rt (r : RV) (ρ : Env) (f : Env → SRes) : (SRes.rt r ρ).then f = .rt r ρ := rfl
@[simp] theorem SRes.then_bk (ρ : Env) (f : Env → SRes) : (SRes.bk ρ).then f = .bk ρ := rfl
@[simp] theorem SRes.then_ct (ρ : Env) (f : Env → SRes) : (SRes.ct ρ).then f = .ct ρ := rfl
@[simp] theorem SRes.then_ex (c : Str) (pl : List D) (ρ : Env) (f : Env → SRes) : (SRes.ex c pl ρ).then f = .ex c pl ρ := rfl
@[simp] theorem SRes.then_bad (f : Env → SRes) : SRes.bad.then f = .bad := rfl
def SRes.ofO : Option Env → SRes
  | some ρ => .nx ρ
  | none => .bad
def puts : List Nat → List RV → Env → Option Env
  | [], [], ρ => some ρ
  | i :: is, r :: rs, ρ => (put i r ρ).bind (puts is rs)
  | _, _, _ => none
/-- values that go to names: kept as one's own -/
def vRs : List (Den RV) → Den (List RV)
  | [], ρ => .ok [] ρ
  | f :: fs, ρ => (f ρ).bind fun r ρ => (vRs fs ρ).bind fun rs ρ => .ok (r :: rs) ρ
/-- the turns of a for -/
def loop (step : D → Env → SRes) : List D → Env → SRes
  | [], ρ => .nx ρ
  | x :: xs, ρ => match step x ρ with
    | .nx ρ => loop step xs ρ
    | .ct ρ => loop step xs ρ
    | .bk ρ => .bk ρ
    | r => r
def whileL (test : Den Bool) (body : Env → SRes) : Nat → Env → SRes
  | 0, _ => .bad
  | n + 1, ρ => (test ρ).to fun k ρ => if k then (match body ρ with
    | .nx ρ => whileL test body n ρ
    | .ct ρ => whileL test body n ρ
    | .bk ρ => .nx ρ
    | r => r) else .nx ρ
def setAt (xs : List D) (i : Int) (d : D) : Option (List D) := if 0 ≤ i ∧ i.toNat < xs.length then some (xs.set i.toNat d) else if i < 0 ∧ -(xs.length : Int) ≤ i then some (xs.set (xs.length + i).toNat d) else none
/-- the list or dict with d at k -/
def store : D → D → D → Option D
  | .lst xs, .int i, d => (setAt xs i d).map .lst
  | .dic ks vs, k, d => if keyOk k && decide (ks.length < line) then some (.dic (putKV ks vs k d).1 (putKV ks vs k d).2) else none
  | _, _, _ => none
def storeE (i : Nat) (k d : D) (ρ : Env) : SRes := SRes.ofO ((owned i ρ).bind fun c => (store c k d).bind fun c => change i c ρ)

mutual
def denS (F : Ifc) : S → Env → SRes
  | .set i e => fun ρ => (denE F e ρ).to fun r ρ => SRes.ofO (put i r ρ)
  | .setT ts e => fun ρ => (vO e (denE F e) ρ).to fun o ρ => SRes.ofO ((fetch ρ o).bind fun
    | .tup ds => if ds.length = ts.length then puts ts (ds.map .val) ρ else none
    | _ => none)
  | .setP ts es => fun ρ => (vRs (denL F es) ρ).to fun rs ρ => SRes.ofO (puts ts rs ρ)
  | .seti i k e => fun ρ => (vV (denE F e) ρ).to fun d ρ => if (owned i ρ).isSome then (vV (denE F k) ρ).to fun k ρ => storeE i k d ρ else .bad
  | .swap i k1 k2 e1 e2 => fun ρ => (vV (denE F e1) ρ).to fun d1 ρ => (vV (denE F e2) ρ).to fun d2 ρ =>
      (vV (denE F k1) ρ).to fun k1 ρ => (storeE i k1 d1 ρ).then fun ρ => (vV (denE F k2) ρ).to fun k2 ρ => storeE i k2 d2 ρ
  | .aug i o e => fun ρ => match look i ρ with
    | some (.int a) => (vV (denE F e) ρ).to fun d ρ => match d with
      | .int b => (match o with | .add => SRes.ofO (put i (.val (.int (a + b))) ρ) | .sub => SRes.ofO (put i (.val (.int (a - b))) ρ) | _ => .bad)
      | _ => .bad
    | _ => .bad
  | .expr e => fun ρ => (denE F e ρ).to fun _ ρ => .nx ρ
  | .ret e => fun ρ => match e with
    | .slot i => (match ρ[i]? with
      | some (.own d) => .rt (.own d) (ρ.set i .no)
      | some (.val d) => .rt (.val d) ρ
      | _ => .bad)
    | _ => (denE F e ρ).to fun r ρ => .rt r ρ
  | .retN => fun ρ => .rt (.val .non) ρ
  | .ifs c a b => fun ρ => (vT c (denE F c) ρ).to fun k ρ => if k then denB F a ρ else denB F b ρ
  | .forS tg it body => fun ρ => (vIt it (denE F it) ρ).to fun xs ρ =>
      match loop (fun x ρ => (SRes.ofO (asg tg x ρ)).then (denB F body)) xs (lock (walked it) ρ) with
      | .nx ρ' => .nx (unlock ρ (walked it) ρ')
      | .bk ρ' => .nx (unlock ρ (walked it) ρ')
      | .rt r ρ' => .rt r (unlock ρ (walked it) ρ')
      | .ex c pl ρ' => .ex c pl (unlock ρ (walked it) ρ')
      | _ => .bad
  | .whl c body => fun ρ => whileL (vT c (denE F c)) (denB F body) F.fuel ρ
  | .raise x as => fun ρ => (vVs (denL F as) ρ).to fun ds ρ => if x = "TooMany" then .ex x ds ρ else .ex x [] ρ
  | .brk => fun ρ => .bk ρ
  | .cont => fun ρ => .ct ρ
  | .pass => fun ρ => .nx ρ
  | .never => fun _ => .bad
def denB (F : Ifc) : List S → Env → SRes
  | [] => fun ρ => .nx ρ
  | s :: ss => fun ρ => (denS F s ρ).then (denB F ss)
end

/-! ### programs -/
structure Fn where
  name : Str
  pars : List Str
  dfl : List D
  ino : List Bool
  N : List Str
  body : List S
structure Prog where
  fns : List Fn
  globs : List (Str × D)
  subs : List (Str × Str)
  fuel : Nat
def Prog.find (P : Prog) (f : Str) : Option Fn := P.fns.find? fun fn => decide (fn.name = f)
def Prog.ifc (P : Prog) (call : Str → List D → CRes) : Ifc where
  call := call
  ino := fun f => match P.find f with | some fn => fn.ino | none => []
  pars := fun f => match P.find f with | some fn => fn.pars | none => []
  dfl := fun f => match P.find f with | some fn => fn.dfl | none => []
  glob := fun x => match P.globs.lookup x with | some d => some d | none => match P.find x with | some _ => some (.fn x) | none => none
  sub := fun a b => P.subs.contains (a, b)
  fuel := P.fuel
def startSlots : List Bool → List D → List Slot
  | true :: bs, d :: ds => .ref d :: startSlots bs ds
  | false :: bs, d :: ds => .val d :: startSlots bs ds
  | _, _ => []
def startEnv (fn : Fn) (ds : List D) : Env := startSlots fn.ino ds ++ List.replicate (fn.N.length - fn.pars.length) .no
/-- the lent lists at the end -/
def outsOf : List Bool → List Slot → Option (List D)
  | true :: bs, .ref d :: ss => (outsOf bs ss).map (d :: ·)
  | false :: bs, _ :: ss => outsOf bs ss
  | [], _ => some []
  | _, _ => none
def runFn (F : Ifc) (fn : Fn) (ds : List D) : CRes := if ds.length = fn.pars.length then
  match denB F fn.body (startEnv fn ds) with
  | .nx ρ => (match outsOf fn.ino ρ with | some o => .ok (.val .non) o | none => .bad)
  | .rt r ρ => (match outsOf fn.ino ρ with | some o => .ok r o | none => .bad)
  | .ex c pl ρ => (match outsOf fn.ino ρ with | some o => .ex c pl o | none => .bad)
  | _ => .bad
  else .bad
def Prog.call (P : Prog) : Nat → Str → List D → CRes
  | 0, _, _ => .bad
  | n + 1, f, ds => match P.find f with
    | some fn => runFn (P.ifc (P.call n)) fn ds
    | none => .bad
end Mini

/- M2 -/
set_option Elab.async false
set_option linter.all false
set_option maxRecDepth 100000
/-! MINI 2: how plain values and environments lie in the abstract heap. -/
namespace Mini
open PySem PySem.Spec PyProof.Rows L2 LamX

def keyD : Key → D
  | .inl i => .int i
  | .inr x => .str x
/-- a caught exception of the class cls, its own dict d, at a -/
def ExH (cls : Value) (d : Option Addr) (a : Addr) : HO := .ext fun h => ∃ oe : Obj, h.get? a = some oe ∧ Zc cls d oe ∧ ∃ vs, oe.data = .fields vs

section
variable (K : PySem.W.Frag) (mg : Str → Option Value)
mutual
/-- the value v is the plain value, all of it among the things that stay -/
inductive Rp (S : Hp) : V → D → Prop
  | non : Rp S .non .non
  | bl (b : Bool) : Rp S (.bl b) (.bl b)
  | int (i : Int) : Rp S (.int i) (.int i)
  | str (x : Str) : Rp S (.str x) (.str x)
  | tup {a : Addr} {vs : List V} {ds : List D} : SqT K S a vs → RpL S vs ds → Rp S (.ref a) (.tup ds)
  | lst {a : Addr} {vs : List V} {ds : List D} : S a = some (.lst vs) → RpL S vs ds → Rp S (.ref a) (.lst ds)
  | scr {a : Addr} {ns : List Int} : SqL K S a (ns.map V.int) → Rp S (.ref a) (.scr ns)
  | dic {a : Addr} {kvs : List (Key × V)} {ks ds : List D} : S a = some (.dK kvs) → ks = kvs.map (fun p => keyD p.1) → RpL S (kvs.map (·.2)) ds → Rp S (.ref a) (.dic ks ds)
  | fn {a : Addr} {x : Str} : mg x = some (.ref a) → Rp S (.ref a) (.fn x)
  | exc0 {a C : Addr} {c : Str} : mg c = some (.ref C) → S a = some (ExH (.ref C) none a) → Rp S (.ref a) (.exc c [])
  | exc1 {a C dd : Addr} {c : Str} {v : V} {z : D} : mg c = some (.ref C) → S a = some (ExH (.ref C) (some dd) a) → S dd = some (.xd [("most", v)]) → Rp S v z → Rp S (.ref a) (.exc c [z])
inductive RpL (S : Hp) : List V → List D → Prop
  | nil : RpL S [] []
  | cons {v : V} {vs : List V} {d : D} {ds : List D} : Rp S v d → RpL S vs ds → RpL S (v :: vs) (d :: ds)
end
end

theorem same_seqL {K : PySem.W.Frag} {S S' : Hp} {a : Addr} {xs : List V} (e : Same S S') (h : SqL K S a xs) : SqL K S' a xs := e.seq h
theorem same_seqT {K : PySem.W.Frag} {S S' : Hp} {a : Addr} {xs : List V} (e : Same S S') (h : SqT K S a xs) : SqT K S' a xs := by
  rcases h with (h | ⟨o, h⟩) | h
  · exact .inl (.inl (e _ _ h))
  · exact .inl (.inr ⟨o, e _ _ h⟩)
  · exact .inr h
theorem same_rd {S S' : Hp} {a : Addr} {u : HO} (e : Same S S') (h : Rd S a u) : Rd S' a u := by
  rcases h with h | ⟨o, h⟩
  · exact .inl (e _ _ h)
  · exact .inr ⟨o, e _ _ h⟩

section
variable {K : PySem.W.Frag} {mg : Str → Option Value} {S S' H H' P : Hp}
mutual
theorem Rp.mono (e : Same S S') : ∀ {v : V} {d : D}, Rp K mg S v d → Rp K mg S' v d
  | _, _, .non => .non
  | _, _, .bl b => .bl b
  | _, _, .int i => .int i
  | _, _, .str x => .str x
  | _, _, .tup h r => .tup (same_seqT e h) (RpL.mono e r)
  | _, _, .lst h r => .lst (e _ _ h) (RpL.mono e r)
  | _, _, .scr h => .scr (same_seqL e h)
  | _, _, .dic h k r => .dic (e _ _ h) k (RpL.mono e r)
  | _, _, .fn h => .fn h
  | _, _, .exc0 h1 h2 => .exc0 h1 (e _ _ h2)
  | _, _, .exc1 h1 h2 h3 h4 => .exc1 h1 (e _ _ h2) (e _ _ h3) (Rp.mono e h4)
theorem RpL.mono (e : Same S S') : ∀ {vs : List V} {ds : List D}, RpL K mg S vs ds → RpL K mg S' vs ds
  | _, _, .nil => .nil
  | _, _, .cons h r => .cons (Rp.mono e h) (RpL.mono e r)
end
theorem RpL.length : ∀ {vs : List V} {ds : List D}, RpL K mg S vs ds → vs.length = ds.length
  | _, _, .nil => rfl
  | _, _, .cons _ r => congrArg Nat.succ (RpL.length r)
theorem RpL.append : ∀ {vs ws : List V} {ds es : List D}, RpL K mg S vs ds → RpL K mg S ws es → RpL K mg S (vs ++ ws) (ds ++ es)
  | _, _, _, _, .nil, q => q
  | _, _, _, _, .cons h r, q => .cons h (RpL.append r q)
theorem RpL.get : ∀ {vs : List V} {ds : List D} {i : Nat} {d : D}, RpL K mg S vs ds → ds[i]? = some d → ∃ v, vs[i]? = some v ∧ Rp K mg S v d
  | _, _, _, _, .nil, e => by simp at e
  | _, _, 0, _, .cons h _, e => by simp at e; subst e; exact ⟨_, rfl, h⟩
  | _, _, i + 1, _, .cons _ r, e => by
    obtain ⟨v, h1, h2⟩ := RpL.get (i := i) r (by simpa using e)
    exact ⟨v, by simpa using h1, h2⟩
theorem RpL.getV : ∀ {vs : List V} {ds : List D} {i : Nat} {v : V}, RpL K mg S vs ds → vs[i]? = some v → ∃ d, ds[i]? = some d ∧ Rp K mg S v d
  | _, _, _, _, .nil, e => by simp at e
  | _, _, 0, _, .cons h _, e => by simp at e; subst e; exact ⟨_, rfl, h⟩
  | _, _, i + 1, _, .cons _ r, e => by
    obtain ⟨v, h1, h2⟩ := RpL.getV (i := i) r (by simpa using e)
    exact ⟨v, by simpa using h1, h2⟩
theorem RpL.take : ∀ {vs : List V} {ds : List D} (n : Nat), RpL K mg S vs ds → RpL K mg S (vs.take n) (ds.take n)
  | _, _, 0, _ => .nil
  | _, _, _ + 1, .nil => .nil
  | _, _, n + 1, .cons h r => .cons h (RpL.take n r)
theorem RpL.drop : ∀ {vs : List V} {ds : List D} (n : Nat), RpL K mg S vs ds → RpL K mg S (vs.drop n) (ds.drop n)
  | _, _, 0, r => r
  | _, _, _ + 1, .nil => .nil
  | _, _, n + 1, .cons _ r => RpL.drop n r
theorem RpL.rev : ∀ {vs : List V} {ds : List D}, RpL K mg S vs ds → RpL K mg S vs.reverse ds.reverse
  | _, _, .nil => .nil
  | _, _, .cons h r => by
    rw [List.reverse_cons, List.reverse_cons]
    exact (RpL.rev r).append (.cons h .nil)
theorem RpL.set {v : V} {d : D} (q : Rp K mg S v d) : ∀ {vs : List V} {ds : List D} (i : Nat), RpL K mg S vs ds → RpL K mg S (vs.set i v) (ds.set i d)
  | _, _, _, .nil => .nil
  | _, _, 0, .cons _ r => .cons q r
  | _, _, i + 1, .cons h r => .cons h (RpL.set q i r)
theorem RpL.one {v : V} {d : D} (q : Rp K mg S v d) : RpL K mg S [v] [d] := .cons q .nil

/-- a list or dict of one's own, at a: what is in it stays -/
def OwC (K : PySem.W.Frag) (mg : Str → Option Value) (S H : Hp) (a : Addr) (d : D) : Prop :=
  S a = none ∧ ((∃ vs ds, d = .lst ds ∧ H a = some (.lst vs) ∧ RpL K mg S vs ds) ∨
    ∃ (kvs : List (Key × V)) (ks ds : List D), d = .dic ks ds ∧ H a = some (.dK kvs) ∧ ks = kvs.map (fun p => keyD p.1) ∧ RpL K mg S (kvs.map (·.2)) ds)
theorem OwC.mono {a : Addr} {d : D} (h : OwC K mg S H a d) (e : Same S S') (n : S' a = none) (k : ∀ o, H a = some o → H' a = some o) : OwC K mg S' H' a d := by
  obtain ⟨_, ⟨vs, ds, e1, e2, r⟩ | ⟨kvs, ks, ds, e1, e2, e3, r⟩⟩ := h
  · exact ⟨n, .inl ⟨vs, ds, e1, k _ e2, r.mono e⟩⟩
  · exact ⟨n, .inr ⟨kvs, ks, ds, e1, k _ e2, e3, r.mono e⟩⟩
theorem OwC.obj {a : Addr} {d : D} (h : OwC K mg S H a d) : ∃ o, H a = some o ∧ ((∃ vs, o = .lst vs) ∨ ∃ kvs, o = .dK kvs) := by
  obtain ⟨_, ⟨vs, ds, e1, e2, r⟩ | ⟨kvs, ks, ds, e1, e2, e3, r⟩⟩ := h
  · exact ⟨_, e2, .inl ⟨_, rfl⟩⟩
  · exact ⟨_, e2, .inr ⟨_, rfl⟩⟩
/-- it stays from now on -/
theorem OwC.freeze {a : Addr} {d : D} {o : HO} (h : OwC K mg S H a d) (ho : H a = some o) : Same S (upd S a o) ∧ Rp K mg (upd S a o) (.ref a) d := by
  obtain ⟨n, h⟩ := h
  have sm : Same S (upd S a o) := fun b x e => by
    rw [upd_ne (ne_of_none e n)]
    exact e
  refine ⟨sm, ?_⟩
  rcases h with ⟨vs, ds, e1, e2, r⟩ | ⟨kvs, ks, ds, e1, e2, e3, r⟩
  · rw [ho] at e2; cases e2
    subst e1
    exact .lst upd_same (r.mono sm)
  · rw [ho] at e2; cases e2
    subst e1
    exact .dic upd_same e3 (r.mono sm)
/-- v, to be looked at: it stays, or is one's own -/
def Vw (K : PySem.W.Frag) (mg : Str → Option Value) (S H : Hp) (v : V) (d : D) : Prop := Rp K mg S v d ∨ ∃ a, v = .ref a ∧ OwC K mg S H a d
theorem Vw.rp (e : Same S H) {v : V} {d : D} (h : Vw K mg S H v d) : Rp K mg H v d := by
  rcases h with h | ⟨a, rfl, n, ⟨vs, ds, e1, e2, r⟩ | ⟨kvs, ks, ds, e1, e2, e3, r⟩⟩
  · exact h.mono e
  · subst e1; exact .lst e2 (r.mono e)
  · subst e1; exact .dic e2 e3 (r.mono e)
theorem Vw.lst (e : Same S H) {v : V} {ds : List D} (h : Vw K mg S H v (.lst ds)) : ∃ a vs, v = .ref a ∧ H a = some (.lst vs) ∧ RpL K mg S vs ds := by
  rcases h with h | ⟨a, rfl, n, ⟨vs, ds, e1, e2, r⟩ | ⟨kvs, ks, ds, e1, e2, e3, r⟩⟩
  · cases h with
    | lst h r => exact ⟨_, _, rfl, e _ _ h, r⟩
  · cases e1; exact ⟨a, vs, rfl, e2, r⟩
  · cases e1
theorem Vw.tup (e : Same S H) {v : V} {ds : List D} (h : Vw K mg S H v (.tup ds)) : ∃ a vs, v = .ref a ∧ SqT K H a vs ∧ SqT K S a vs ∧ RpL K mg S vs ds := by
  rcases h with h | ⟨a, rfl, n, ⟨vs, ds, e1, e2, r⟩ | ⟨kvs, ks, ds, e1, e2, e3, r⟩⟩
  · cases h with
    | tup h r => exact ⟨_, _, rfl, same_seqT e h, h, r⟩
  · cases e1
  · cases e1
theorem Vw.dic (e : Same S H) {v : V} {ks ds : List D} (h : Vw K mg S H v (.dic ks ds)) : ∃ a kvs, v = .ref a ∧ H a = some (.dK kvs) ∧ ks = kvs.map (fun p => keyD p.1) ∧ RpL K mg S (kvs.map (·.2)) ds := by
  rcases h with h | ⟨a, rfl, n, ⟨vs, ds, e1, e2, r⟩ | ⟨kvs, ks, ds, e1, e2, e3, r⟩⟩
  · cases h with
    | dic h k r => exact ⟨_, _, rfl, e _ _ h, k, r⟩
  · cases e1
  · cases e1; exact ⟨a, kvs, rfl, e2, e3, r⟩
theorem Vw.int {v : V} {i : Int} (h : Vw K mg S H v (.int i)) : v = .int i := by
  rcases h with h | ⟨a, rfl, n, ⟨vs, ds, e1, e2, r⟩ | ⟨kvs, ks, ds, e1, e2, e3, r⟩⟩
  · cases h; rfl
  · cases e1
  · cases e1
theorem Vw.bl {v : V} {b : Bool} (h : Vw K mg S H v (.bl b)) : v = .bl b := by
  rcases h with h | ⟨a, rfl, n, ⟨vs, ds, e1, e2, r⟩ | ⟨kvs, ks, ds, e1, e2, e3, r⟩⟩
  · cases h; rfl
  · cases e1
  · cases e1
theorem Vw.non {v : V} (h : Vw K mg S H v .non) : v = .non := by
  rcases h with h | ⟨a, rfl, n, ⟨vs, ds, e1, e2, r⟩ | ⟨kvs, ks, ds, e1, e2, e3, r⟩⟩
  · cases h; rfl
  · cases e1
  · cases e1
theorem Vw.str {v : V} {x : Str} (h : Vw K mg S H v (.str x)) : v = .str x := by
  rcases h with h | ⟨a, rfl, n, ⟨vs, ds, e1, e2, r⟩ | ⟨kvs, ks, ds, e1, e2, e3, r⟩⟩
  · cases h; rfl
  · cases e1
  · cases e1
end

section
variable {K : PySem.W.Frag} {mg : Str → Option Value} {S S' H H' P : Hp}
theorem Vw.scr (e : Same S H) {v : V} {ns : List Int} (h : Vw K mg S H v (.scr ns)) : ∃ a, v = .ref a ∧ SqL K H a (ns.map V.int) := by
  rcases h with h | ⟨a, rfl, n, ⟨vs, ds, e1, e2, r⟩ | ⟨kvs, ks, ds, e1, e2, e3, r⟩⟩
  · cases h with
    | scr h => exact ⟨_, rfl, same_seqL e h⟩
  · cases e1
  · cases e1
theorem rpL_ints (S : Hp) : ∀ ns : List Int, RpL K mg S (ns.map V.int) (ns.map D.int)
  | [] => .nil
  | n :: ns => .cons (.int n) (rpL_ints S ns)
mutual
theorem Rp.dp : ∀ {v : V} {d : D}, Rp K mg S v d → d.plain = true → Dp K S v d.py
  | _, _, .non, _ => .non
  | _, _, .bl b, _ => .bl b
  | _, _, .int i, _ => .int i
  | _, _, .str x, _ => .str x
  | _, _, .tup h r, p => .tup h (RpL.dp r p)
  | _, _, .lst h r, p => .lst (.inl (.inl h)) (RpL.dp r p)
  | _, _, .scr _, p => Bool.noConfusion p
  | _, _, .dic _ _ _, p => Bool.noConfusion p
  | _, _, .fn _, p => Bool.noConfusion p
  | _, _, .exc0 _ _, p => Bool.noConfusion p
  | _, _, .exc1 _ _ _ _, p => Bool.noConfusion p
theorem RpL.dp : ∀ {vs : List V} {ds : List D}, RpL K mg S vs ds → D.plainL ds = true → DpAll K S vs (D.pyL ds)
  | _, _, .nil, _ => .nil
  | _, _, .cons h r, p => by
    rw [D.plainL, Bool.and_eq_true] at p
    exact .cons (Rp.dp h p.1) (RpL.dp r p.2)
end
end

/-! ### environments -/
def Slot.mut? : Slot → Option D
  | .own d | .ref d | .lk d => some d
  | _ => none
def Slot.fix : Slot → Bool
  | .ref _ | .lk _ => true
  | _ => false
/-- the i-th name's own list or dict -/
def mutD (ρ : Env) (i : Nat) : Option D := (ρ[i]?).bind Slot.mut?

/-- no table of code objects is among them -/
def NT (H : Hp) : Prop := ∀ b ps, H b ≠ some (.tbl ps)
theorem NT.upd {H : Hp} {a : Addr} {o : HO} (h : NT H) (ho : ∀ ps, o ≠ .tbl ps) : NT (L2.upd H a o) := fun b ps z => by
  by_cases e : b = a
  · subst e; rw [upd_same] at z; exact ho ps (Option.some.inj z)
  · rw [upd_ne e] at z; exact h b ps z
/-- where lent and walked lists stand; what is walked -/
structure Lk where
  ad : Nat → Option Addr
  lk : Nat → Option D
/-- an environment, as it lies: S what stays, P what others hold and what this code leaves alone, T the code tables, la where lent and walked lists stand -/
structure Rel (K : PySem.W.Frag) (mg : Str → Option Value) (T : List (Addr × Str)) (P : Hp) (la : Lk) (S H : Hp) (σ : L2.St) (ρ : Env) : Prop where
  sub : Same S H
  prot : Same P H
  dj : ∀ a o, P a = some o → S a = none
  nt : NT S ∧ NT P
  tabs : Tabs T H
  tabN : ∀ p ∈ T, S p.1 = none ∧ P p.1 = none
  len : σ.length = ρ.length
  val : ∀ (i : Nat) (d : D), ρ[i]? = some (Slot.val d) → ∃ v, σ[i]? = some (some v) ∧ Rp K mg S v d
  mu : ∀ (i : Nat) (d : D), mutD ρ i = some d → ∃ a, σ[i]? = some (some (V.ref a)) ∧ OwC K mg S H a d ∧ P a = none
  fix : ∀ (i : Nat) (s : Slot), ρ[i]? = some s → s.fix = true → ∃ a, la.ad i = some a ∧ σ[i]? = some (some (V.ref a))
  lks : ∀ (i : Nat) (d : D), la.lk i = some d → ρ[i]? = some (Slot.lk d)
  inj : ∀ (i j : Nat) (a : Addr), i ≠ j → (mutD ρ i).isSome = true → (mutD ρ j).isSome = true → σ[i]? = some (some (V.ref a)) → σ[j]? ≠ some (some (V.ref a))

section
variable {K : PySem.W.Frag} {mg : Str → Option Value} {T : List (Addr × Str)} {P P' : Hp} {la : Lk} {S S' H H' : Hp} {σ σ' : L2.St} {ρ ρ' : Env}

theorem look_cases {i : Nat} {d : D} (h : look i ρ = some d) : ρ[i]? = some (Slot.val d) ∨ mutD ρ i = some d := by
  unfold look at h
  unfold mutD
  cases e : ρ[i]? with
  | none => rw [e] at h; cases h
  | some s =>
    rw [e] at h
    cases s <;> simp [Slot.d?, Slot.mut?] at h ⊢ <;> exact h
theorem Rel.look (R : Rel K mg T P la S H σ ρ) {i : Nat} {d : D} (h : look i ρ = some d) : ∃ v, σ[i]? = some (some v) ∧ Vw K mg S H v d := by
  rcases look_cases h with h | h
  · obtain ⟨v, e, r⟩ := R.val i d h
    exact ⟨v, e, .inl r⟩
  · obtain ⟨a, e, r, _⟩ := R.mu i d h
    exact ⟨.ref a, e, .inr ⟨a, rfl, r⟩⟩
/-- an object that is neither a table nor a code object is laid or changed -/
theorem Tabs.upd {a : Addr} {o : HO} (t : Tabs T H) (h : ∀ u, H a = some u → (∀ ps, u ≠ .tbl ps) ∧ ∀ c q, u ≠ CodeO c q) : Tabs T (upd H a o) := fun p hp => by
  obtain ⟨ps, h1, h2, h3⟩ := t p hp
  have n1 : p.1 ≠ a := fun z => by rw [z] at h1; exact (h _ h1).1 _ rfl
  refine ⟨ps, by rw [upd_ne n1]; exact h1, h2, fun pos cv hc => ?_⟩
  obtain ⟨c, e1, e2⟩ := h3 pos cv hc
  have n2 : c ≠ a := fun z => by rw [z] at e2; exact (h _ e2).2 _ _ rfl
  exact ⟨c, e1, by rw [upd_ne n2]; exact e2⟩
theorem Tabs.ne_own {a : Addr} {d : D} (w : OwC K mg S H a d) : ∀ u, H a = some u → (∀ ps, u ≠ .tbl ps) ∧ ∀ c q, u ≠ CodeO c q := fun u e => by
  obtain ⟨o, ho, h⟩ := w.obj
  rw [ho] at e; cases e
  rcases h with ⟨vs, rfl⟩ | ⟨kvs, rfl⟩
  · exact ⟨fun ps z => (by cases z), fun c q z => (by unfold CodeO at z; cases z)⟩
  · exact ⟨fun ps z => (by cases z), fun c q z => (by unfold CodeO at z; cases z)⟩
theorem Tabs.new {a : Addr} {o : HO} (t : Tabs T H) (n : H a = none) : Tabs T (L2.upd H a o) := Tabs.upd t fun u e => by rw [n] at e; cases e
theorem same_new {a : Addr} {o : HO} (n : H a = none) : Same H (L2.upd H a o) := fun b x e => by rw [upd_ne (ne_of_none e n)]; exact e
theorem Same.upd2 {a : Addr} {o : HO} (e : Same S H) : Same (L2.upd S a o) (L2.upd H a o) := fun b x h => by
  by_cases z : b = a
  · subst z; rw [upd_same] at h ⊢; exact h
  · rw [upd_ne z] at h ⊢; exact e _ _ h
theorem none_of_same (e : Same S H) {a : Addr} (n : H a = none) : S a = none := Same.free e n

/-- a new thing, which stays -/
theorem Rel.newS (R : Rel K mg T P la S H σ ρ) {p : Addr} {o : HO} (n : H p = none) (ho : ∀ ps, o ≠ .tbl ps) : Rel K mg T P la (upd S p o) (upd H p o) σ ρ where
  sub := Same.upd2 R.sub
  prot := fun b x e => by rw [upd_ne (ne_of_none (R.prot _ _ e) n)]; exact R.prot _ _ e
  dj := fun a x e => by rw [upd_ne (ne_of_none (R.prot _ _ e) n)]; exact R.dj a x e
  nt := ⟨R.nt.1.upd ho, R.nt.2⟩
  tabs := Tabs.new R.tabs n
  tabN := fun q hq => by
    obtain ⟨ps, h1, _⟩ := R.tabs q hq
    rw [upd_ne (ne_of_none h1 n)]
    exact R.tabN q hq
  len := R.len
  val := fun i d e => by
    obtain ⟨v, e1, r⟩ := R.val i d e
    exact ⟨v, e1, r.mono (same_new (none_of_same R.sub n))⟩
  mu := fun i d e => by
    obtain ⟨a, e1, w, e2⟩ := R.mu i d e
    obtain ⟨u, hu, _⟩ := w.obj
    have ne : a ≠ p := ne_of_none hu n
    exact ⟨a, e1, w.mono (same_new (none_of_same R.sub n)) (by rw [upd_ne ne]; exact w.1) (fun x hx => by rw [upd_ne ne]; exact hx), e2⟩
  fix := R.fix
  lks := R.lks
  inj := R.inj
/-- a new thing of one's own, at no name yet -/
theorem Rel.newO (R : Rel K mg T P la S H σ ρ) {p : Addr} {o : HO} (n : H p = none) : Rel K mg T P la S (upd H p o) σ ρ where
  sub := fun b x e => by rw [upd_ne (ne_of_none (R.sub _ _ e) n)]; exact R.sub _ _ e
  prot := fun b x e => by rw [upd_ne (ne_of_none (R.prot _ _ e) n)]; exact R.prot _ _ e
  dj := R.dj
  nt := R.nt
  tabs := Tabs.new R.tabs n
  tabN := R.tabN
  len := R.len
  val := R.val
  mu := fun i d e => by
    obtain ⟨a, e1, w, e2⟩ := R.mu i d e
    obtain ⟨u, hu, _⟩ := w.obj
    have ne : a ≠ p := ne_of_none hu n
    exact ⟨a, e1, w.mono (Same.refl S) w.1 (fun x hx => by rw [upd_ne ne]; exact hx), e2⟩
  fix := R.fix
  lks := R.lks
  inj := R.inj
/-- a result: it stays, or it is new and nobody else's -/
def RVok (K : PySem.W.Frag) (mg : Str → Option Value) (S H H₀ : Hp) : RV → V → Prop
  | .val d, v => Rp K mg S v d
  | .own d, v => ∃ a, v = .ref a ∧ OwC K mg S H a d ∧ H₀ a = none
theorem mutD_ne (R : Rel K mg T P la S H σ ρ) {a : Addr} (n : H a = none) : ∀ j, (mutD ρ j).isSome = true → σ[j]? ≠ some (some (.ref a)) := fun j hj e => by
  obtain ⟨d, hd⟩ := Option.isSome_iff_exists.mp hj
  obtain ⟨b, e1, w, _⟩ := R.mu j d hd
  rw [e1] at e
  cases e
  obtain ⟨o, ho, _⟩ := w.obj
  rw [n] at ho; cases ho
/-- a thing of one's own at no name stays from now on -/
theorem Rel.keepO (R : Rel K mg T P la S H σ ρ) {a : Addr} {d : D} {o : HO} (w : OwC K mg S H a d) (ho : H a = some o) (hP : P a = none) (hj : ∀ j, (mutD ρ j).isSome = true → σ[j]? ≠ some (some (.ref a))) :
    Rel K mg T P la (upd S a o) H σ ρ where
  sub := fun b x e => by
    by_cases z : b = a
    · subst z; rw [upd_same] at e; cases e; exact ho
    · rw [upd_ne z] at e; exact R.sub _ _ e
  prot := R.prot
  dj := fun b x e => by
    rw [upd_ne (fun z => by rw [z, hP] at e; cases e)]
    exact R.dj b x e
  nt := ⟨R.nt.1.upd (Tabs.ne_own w o ho).1, R.nt.2⟩
  tabs := R.tabs
  tabN := fun q hq => by
    obtain ⟨ps, h1, _⟩ := R.tabs q hq
    have ne : q.1 ≠ a := fun z => by
      rw [z] at h1
      exact (Tabs.ne_own w _ h1).1 _ rfl
    rw [upd_ne ne]
    exact R.tabN q hq
  len := R.len
  val := fun i d' e => by
    obtain ⟨v, e1, r⟩ := R.val i d' e
    exact ⟨v, e1, r.mono (w.freeze ho).1⟩
  mu := fun i d' e => by
    obtain ⟨b, e1, w', e2⟩ := R.mu i d' e
    have ne : b ≠ a := fun z => hj i (by rw [e]; rfl) (by rw [← z]; exact e1)
    exact ⟨b, e1, w'.mono (w.freeze ho).1 (by rw [upd_ne ne]; exact w'.1) (fun _ q => q), e2⟩
  fix := R.fix
  lks := R.lks
  inj := R.inj
/-- others' things: fewer are looked after -/
theorem Rel.less (R : Rel K mg T P la S H σ ρ) (e : Same P' P) : Rel K mg T P' la S H σ ρ where
  sub := R.sub
  prot := fun b x h => R.prot _ _ (e _ _ h)
  dj := fun a o h => R.dj a o (e _ _ h)
  nt := ⟨R.nt.1, fun b ps z => R.nt.2 b ps (e _ _ z)⟩
  tabs := R.tabs
  tabN := fun p hp => ⟨(R.tabN p hp).1, Same.free e (R.tabN p hp).2⟩
  len := R.len
  val := R.val
  mu := fun i d h => by
    obtain ⟨a, e1, w, e2⟩ := R.mu i d h
    exact ⟨a, e1, w, Same.free e e2⟩
  fix := R.fix
  lks := R.lks
  inj := R.inj
/-- a thing of one's own at no name is looked after from now on -/
theorem Rel.guard (R : Rel K mg T P la S H σ ρ) {a : Addr} {d : D} {o : HO} (w : OwC K mg S H a d) (ho : H a = some o) (hj : ∀ j, (mutD ρ j).isSome = true → σ[j]? ≠ some (some (.ref a))) :
    Rel K mg T (upd P a o) la S H σ ρ where
  sub := R.sub
  prot := fun b x e => by
    by_cases z : b = a
    · subst z; rw [upd_same] at e; cases e; exact ho
    · rw [upd_ne z] at e; exact R.prot _ _ e
  dj := fun b x e => by
    by_cases z : b = a
    · subst z; exact w.1
    · rw [upd_ne z] at e; exact R.dj b x e
  nt := ⟨R.nt.1, R.nt.2.upd (Tabs.ne_own w o ho).1⟩
  tabs := R.tabs
  tabN := fun q hq => by
    obtain ⟨ps, h1, _⟩ := R.tabs q hq
    have ne : q.1 ≠ a := fun z => by
      rw [z] at h1
      exact (Tabs.ne_own w _ h1).1 _ rfl
    rw [upd_ne ne]
    exact R.tabN q hq
  len := R.len
  val := R.val
  mu := fun i d' e => by
    obtain ⟨b, e1, w', e2⟩ := R.mu i d' e
    have ne : b ≠ a := fun z => hj i (by rw [e]; rfl) (by rw [← z]; exact e1)
    exact ⟨b, e1, w', by rw [upd_ne ne]; exact e2⟩
  fix := R.fix
  lks := R.lks
  inj := R.inj
end
end Mini

/- M3a -/
set_option Elab.async false
set_option linter.all false
set_option maxRecDepth 100000
set_option maxHeartbeats 1000000
/-! MINI 3a: operators and built-ins, by values. -/
namespace Mini
open PySem PySem.Spec PyProof.Rows L2 LamX

/-- what a step made: a value that stays already, a new tuple, a new list -/
inductive Made (K : PySem.W.Frag) (mg : Str → Option Value) (S H : Hp) : RV → V → Hp → Prop
  | same {d : D} {v : V} : Rp K mg S v d → Made K mg S H (.val d) v H
  | tup {p : Addr} {vs : List V} {ds : List D} : H p = none → RpL K mg S vs ds → Made K mg S H (.val (.tup ds)) (.ref p) (upd H p (.tup vs))
  | lst {p : Addr} {vs : List V} {ds : List D} : H p = none → RpL K mg S vs ds → Made K mg S H (.own (.lst ds)) (.ref p) (upd H p (.lst vs))

theorem line_eq : sizeLine = line := by decide
/-- two operands looked at -/
def rOp (K : PySem.W.Frag) (mg : Str → Option Value) (f : D → D → Option RV) : R2 := fun x y H Q => ∃ S a b r, Same S H ∧ Vw K mg S H x a ∧ Vw K mg S H y b ∧ f a b = some r ∧ ∀ v H', Made K mg S H r v H' → Q v H'
section
variable {X : Cx} {mg : Str → Option Value}
theorem mulOk_ok {a b : Int} (h : mulOk a b = true) : IntMulOk a b := by
  unfold mulOk at h
  unfold IntMulOk
  intro z
  rw [z] at h
  cases h
theorem op_mulA : OpR X (binaryOp .Mult) (rI (fun a b => IntMulOk a b) fun i j => .int (i * j)) := opI fun _ _ _ _ _ _ _ hc q => mul_int q hc
theorem tuple_mulS (l : Addr) (items : Array Value) (n : Nat) (sl : Array (Option Value)) (dd : Option Addr) (x : Int) (u : Tok) (c0 : (decide (x < -(2 ^ 63)) || decide (x ≥ 2 ^ 63)) = false) (c1 : (items.isEmpty || x == 1) = true) :
    Meets (Builtin.«tuple.__mul__» ⟨[.ref l, .int x u], []⟩) (fun _ R s => s.heap.get? l = some { cls := .type "tuple", dict := dd, data := .seq items n, slots := sl } ∧ R (.ok (.ret (Value.ref l))) s) :=
  .of_wp fun prog w A R s h => by
    obtain ⟨hp, g, d, tk, os⟩ := s
    obtain ⟨hl, h⟩ := h
    have f1 := AutoSeq1.idx_int
    wp_walk using wpAny_loadPart' hl
    repeat (first
      | (refine wpAny_ite_false (decide_eq_false (by rw [c0]; exact Bool.false_ne_true)) ?_; wp_walk using wpAny_loadPart' hl)
      | (refine wpAny_ite_true (decide_eq_true (by rw [c1])) ?_; wp_walk using wpAny_loadPart' hl)
      | (refine wpAny_ite_true c1 ?_; wp_walk using wpAny_loadPart' hl))
    all_goals exact ⟨_, rfl, h⟩

theorem tuple_mul0 (l : Addr) (items : Array Value) (n : Nat) (sl : Array (Option Value)) (dd : Option Addr) (x : Int) (u : Tok) (c0 : (decide (x < -(2 ^ 63)) || decide (x ≥ 2 ^ 63)) = false) (c1 : (items.isEmpty || x == 1) = false) (c2 : (decide (x ≤ 0) || items.isEmpty) = true) :
    Meets (Builtin.«tuple.__mul__» ⟨[.ref l, .int x u], []⟩) (fun _ R s => s.heap.get? l = some { cls := .type "tuple", dict := dd, data := .seq items n, slots := sl } ∧
      R (.ok (.ret (Value.ref s.heap.objs.size))) { s with heap := s.heap.push { cls := Value.type "tuple", data := Data.seq #[] }, toks := s.toks }) :=
  .of_wp fun prog w A R s h => by
    obtain ⟨hp, g, d, tk, os⟩ := s
    obtain ⟨hl, h⟩ := h
    have f1 := AutoSeq1.idx_int
    wp_walk using wpAny_loadPart' hl
    repeat (first
      | (refine wpAny_ite_false (decide_eq_false (by rw [c0]; exact Bool.false_ne_true)) ?_; wp_walk using wpAny_loadPart' hl)
      | (refine wpAny_ite_false (decide_eq_false (by rw [c1]; exact Bool.false_ne_true)) ?_; wp_walk using wpAny_loadPart' hl)
      | (refine wpAny_ite_true (decide_eq_true (by rw [c2])) ?_; wp_walk using wpAny_loadPart' hl)
      | (refine wpAny_ite_true c2 ?_; wp_walk using wpAny_loadPart' hl))
    all_goals exact ⟨_, rfl, h⟩
def rRepT2 (K : PySem.W.Frag) : R2 := fun x y H Q => ∃ l k xs, x = .ref l ∧ y = .int k ∧ SqT K H l xs ∧ k ≤ 1000 ∧ -1000 ≤ k ∧ xs.length ≤ 1000 ∧
  ((xs = [] ∨ k = 1) → Q (.ref l) H) ∧ (¬ (xs = [] ∨ k = 1) → ∀ p, H p = none → Q (.ref p) (upd H p (.tup (List.replicate k.toNat xs).flatten)))
theorem op_repT2 : OpR X (binaryOp .Mult) (rRepT2 X.K) := by
  intro pins s σ H x y v u Q I rx ry h
  obtain ⟨l, k, xs, rfl, rfl, hT, h1, h2, hz, q1, q2⟩ := h
  by_cases hk : 2 ≤ k ∧ xs ≠ []
  · have hn : ¬ (xs = [] ∨ k = 1) := fun z => by
      rcases z with z | z
      · exact hk.2 z
      · omega
    exact op_repT pins s σ H _ _ v u Q I rx ry ⟨l, k, xs, rfl, rfl, hT, hk.2, hk.1, h1, hz, q2 hn⟩
  cases rx
  obtain ⟨t, rfl⟩ := ry
  obtain ⟨its, r, ⟨⟨cls, dd, data, sl⟩, ho, hc, n, hd⟩, hs⟩ := I.tuple hT
  simp only at hc hd
  subst hc hd
  have hle : its.length = xs.length := r.length.symm
  have c0 : (decide (k < -(2 ^ 63)) || decide (k ≥ 2 ^ 63)) = false := by
    rw [decide_eq_false (by omega), decide_eq_false (by omega)] <;> rfl
  have road : ∀ {R : Result → Shared → Prop}, Meets (Builtin.«tuple.__mul__» ⟨[.ref l, .int k t], []⟩) (fun _ R s => s.heap.get? l = some { cls := .type "tuple", dict := dd, data := .seq its.toArray n, slots := sl } ∧ R (.ok (.ret (Value.ref l))) s) → Q (.ref l) H →
      wpAny (model X.prog X.w) X.A (binaryOp .Mult (.ref l) (.int k t)) (EP X pins σ Q) X.xe s := fun {R} m q =>
    wpAny_binaryOp_repeat_ref (T := "tuple") (U := "int") (by decide) ⟨_, ho, rfl⟩ (fun s' => typeIs_int s' k t) noFill_tuple_mul F.fills_int_mul F.slot_int_rmul repeat_tuple F.slot_int_index.lookup
      (call_meets F.slot_int_rmul (typeIs_int s k t) F.entry_int_rmul (F.args_int_rmul_2 _ _) (int_rmul_tuple k t l its.toArray n dd sl)
        ⟨ho, rfl, ⟨_, ho, rfl⟩, call_meets F.slot_tuple_mul ⟨_, ho, rfl⟩ F.entry_tuple_mul (F.args_tuple_mul_2 _ _) m ⟨ho, ⟨.ref l, H, I, rfl, q⟩⟩⟩)
  by_cases he : xs = [] ∨ k = 1
  · refine road (R := fun _ _ => True) (tuple_mulS l its.toArray n sl dd k t c0 ?_) (q1 he)
    rcases he with z | z
    · have : its = [] := List.eq_nil_of_length_eq_zero (by rw [hle, z]; rfl)
      subst this
      rfl
    · subst z
      simp
  · have hx : xs ≠ [] := fun z => he (.inl z)
    have hk0 : k ≤ 0 := by
      have : ¬ 2 ≤ k := fun z => hk ⟨z, hx⟩
      have : k ≠ 1 := fun z => he (.inr z)
      omega
    have hi : its.toArray.isEmpty = false := by
      cases its with
      | nil => exact absurd (List.eq_nil_of_length_eq_zero hle.symm) hx
      | cons a b => rfl
    refine wpAny_binaryOp_repeat_ref (T := "tuple") (U := "int") (by decide) ⟨_, ho, rfl⟩ (fun s' => typeIs_int s' k t) noFill_tuple_mul F.fills_int_mul F.slot_int_rmul repeat_tuple F.slot_int_index.lookup
      (call_meets F.slot_int_rmul (typeIs_int s k t) F.entry_int_rmul (F.args_int_rmul_2 _ _) (int_rmul_tuple k t l its.toArray n dd sl)
        ⟨ho, rfl, ⟨_, ho, rfl⟩, call_meets F.slot_tuple_mul ⟨_, ho, rfl⟩ F.entry_tuple_mul (F.args_tuple_mul_2 _ _) (tuple_mul0 l its.toArray n sl dd k t c0 (by rw [hi, Bool.false_or]; exact beq_eq_false_iff_ne.mpr (by omega)) (by rw [decide_eq_true hk0]; rfl)) ⟨ho, ?_⟩⟩)
    have e0 : (List.replicate k.toNat xs).flatten = [] := by
      rw [show k.toNat = 0 by omega]
      rfl
    have q := q2 he s.heap.objs.size (I.hok.fresh (Nat.le_refl _))
    rw [e0] at q
    refine ⟨.ref s.heap.objs.size, _, I.laid (t' := s.toks) (o := .tup []) (fun b ob q => Heap.get?_push_of_some _ q) (Nat.le_refl _) ?_, rfl, q⟩
    exact ⟨Nat.zero_le _, [], .nil, IsTup.new _ _⟩
theorem rpL_rep {K : PySem.W.Frag} {S : Hp} {vs : List V} {ds : List D} (r : RpL K mg S vs ds) : ∀ k : Nat, RpL K mg S (List.replicate k vs).flatten (repL ds k)
  | 0 => .nil
  | k + 1 => by
    unfold repL
    rw [List.replicate_succ, List.replicate_succ, List.flatten_cons, List.flatten_cons]
    exact r.append (rpL_rep r k)
theorem repL_len (ds : List D) (k : Nat) : (repL ds k).length = k * ds.length := PyProof.Rows.lm_len_rep_flat ds k

theorem opr_add : OpR X (binaryOp .Add) (rOp X.K mg (op2 .add)) := by
  intro pins s σ H x y v u Q I rx ry h
  obtain ⟨S, a, b, r, sm, hx, hy, e, q⟩ := h
  cases a <;> cases b <;> simp only [op2, reduceCtorEq] at e
  case int.int i j =>
    cases e
    have ex := hx.int; have ey := hy.int
    subst ex ey
    exact op_add pins s σ H _ _ v u Q I rx ry ⟨i, j, rfl, rfl, q _ _ (.same (.int _))⟩
  case tup.tup xs ys =>
    split at e <;> cases e
    rename_i hl
    obtain ⟨a, vs, rfl, ha, ha', ra⟩ := hx.tup sm
    obtain ⟨b, ws, rfl, hb, hb', rb⟩ := hy.tup sm
    refine op_catA pins s σ H _ _ v u Q I rx ry ⟨a, b, vs, ws, rfl, rfl, ha, hb, by rw [line_eq, ra.length, rb.length]; exact hl, fun z => ?_, fun _ z => ?_, fun _ _ p np => q _ _ (.tup np (ra.append rb))⟩
    · subst z
      have : xs = [] := List.eq_nil_of_length_eq_zero ra.length.symm
      subst this
      exact q _ _ (.same (.tup hb' rb))
    · subst z
      have : ys = [] := List.eq_nil_of_length_eq_zero rb.length.symm
      subst this
      rw [List.append_nil] at q
      exact q _ _ (.same (.tup ha' ra))
  case lst.lst xs ys =>
    split at e <;> cases e
    rename_i hl
    obtain ⟨a, vs, rfl, ha, ra⟩ := hx.lst sm
    obtain ⟨b, ws, rfl, hb, rb⟩ := hy.lst sm
    exact op_cat pins s σ H _ _ v u Q I rx ry ⟨a, b, vs, ws, rfl, rfl, ha, hb, by rw [line_eq, ra.length, rb.length]; exact hl, fun p np => q _ _ (.lst np (ra.append rb))⟩
theorem opr_sub : OpR X (binaryOp .Sub) (rOp X.K mg (op2 .sub)) := by
  intro pins s σ H x y v u Q I rx ry h
  obtain ⟨S, a, b, r, sm, hx, hy, e, q⟩ := h
  cases a <;> cases b <;> simp only [op2, reduceCtorEq] at e
  case int.int i j =>
    cases e
    have ex := hx.int; have ey := hy.int
    subst ex ey
    exact op_sub pins s σ H _ _ v u Q I rx ry ⟨i, j, rfl, rfl, q _ _ (.same (.int _))⟩
theorem opr_mul : OpR X (binaryOp .Mult) (rOp X.K mg (op2 .mul)) := by
  intro pins s σ H x y v u Q I rx ry h
  obtain ⟨S, a, b, r, sm, hx, hy, e, q⟩ := h
  cases a <;> cases b <;> simp only [op2, reduceCtorEq] at e
  case int.int i j =>
    split at e <;> cases e
    rename_i hm
    have ex := hx.int; have ey := hy.int
    subst ex ey
    exact op_mulA pins s σ H _ _ v u Q I rx ry ⟨i, j, rfl, rfl, mulOk_ok hm, q _ _ (.same (.int _))⟩
  case tup.int xs k =>
    split at e <;> cases e
    rename_i hl
    obtain ⟨a, vs, rfl, ha, ha', ra⟩ := hx.tup sm
    have ey := hy.int
    subst ey
    refine op_repT2 pins s σ H _ _ v u Q I rx ry ⟨a, k, vs, rfl, rfl, ha, hl.1, hl.2.1, by rw [ra.length]; exact hl.2.2, fun z => ?_, fun _ p np => q _ _ (.tup np (rpL_rep ra _))⟩
    have e2 : repL xs k.toNat = xs := by
      rcases z with z | z
      · subst z
        have : xs = [] := List.eq_nil_of_length_eq_zero ra.length.symm
        subst this
        unfold repL
        simp
      · subst z
        unfold repL
        simp
    rw [e2] at q
    exact q _ _ (.same (.tup ha' ra))
  case lst.int xs k =>
    split at e <;> cases e
    rename_i hl
    obtain ⟨a, vs, rfl, ha, ra⟩ := hx.lst sm
    have ey := hy.int
    subst ey
    exact op_rep pins s σ H _ _ v u Q I rx ry ⟨a, k, vs, rfl, rfl, ha, by omega, by omega, by rw [line_eq, ra.length]; exact hl.2.2, fun p np => q _ _ (.lst np (rpL_rep ra _))⟩
theorem opr_fdiv : OpR X (binaryOp .FloorDiv) (rOp X.K mg (op2 .fdiv)) := by
  intro pins s σ H x y v u Q I rx ry h
  obtain ⟨S, a, b, r, sm, hx, hy, e, q⟩ := h
  cases a <;> cases b <;> simp only [op2, reduceCtorEq] at e
  case int.int i j =>
    split at e <;> cases e
    rename_i hm
    have ex := hx.int; have ey := hy.int
    subst ex ey
    exact op_fdivW pins s σ H _ _ v u Q I rx ry ⟨i, j, rfl, rfl, hm, q _ _ (.same (.int _))⟩
theorem opr_mod : OpR X (binaryOp .Mod) (rOp X.K mg (op2 .mod)) := by
  intro pins s σ H x y v u Q I rx ry h
  obtain ⟨S, a, b, r, sm, hx, hy, e, q⟩ := h
  cases a <;> cases b <;> simp only [op2, reduceCtorEq] at e
  case int.int i j =>
    split at e <;> cases e
    rename_i hm
    have ex := hx.int; have ey := hy.int
    subst ex ey
    exact op_mod pins s σ H _ _ v u Q I rx ry ⟨i, j, rfl, rfl, hm, q _ _ (.same (.int _))⟩
theorem opr_pow : OpR X (binaryOp .Pow) (rOp X.K mg (op2 .pow)) := by
  intro pins s σ H x y v u Q I rx ry h
  obtain ⟨S, a, b, r, sm, hx, hy, e, q⟩ := h
  cases a <;> cases b <;> simp only [op2, reduceCtorEq] at e
  case int.int i j =>
    split at e <;> cases e
    rename_i hm
    have ex := hx.int; have ey := hy.int
    subst ex ey
    exact op_pow pins s σ H _ _ v u Q I rx ry ⟨i, j, rfl, rfl, hm, q _ _ (.same (.int _))⟩
def Op2.py : Op2 → Operator
  | .add => .Add | .sub => .Sub | .mul => .Mult | .fdiv => .FloorDiv | .mod => .Mod | .pow => .Pow
theorem opr (o : Op2) : OpR X (binaryOp o.py) (rOp X.K mg (op2 o)) := by
  cases o
  · exact opr_add
  · exact opr_sub
  · exact opr_mul
  · exact opr_fdiv
  · exact opr_mod
  · exact opr_pow

/-! ### comparisons -/
theorem eqOk_plain {d : D} (h : d.eqOk = true) : d.plain = true ∧ SeqAt.shaped d.py = true := by
  unfold D.eqOk at h
  rw [Bool.and_eq_true] at h
  exact h
theorem Vw.dp {K : PySem.W.Frag} {S H : Hp} (sm : Same S H) {v : V} {d : D} (h : Vw K mg S H v d) (p : d.plain = true) : Dp K H v d.py := (h.rp sm).dp p
def rCm (K : PySem.W.Frag) (mg : Str → Option Value) (f : D → D → Option Bool) : R2 := fun x y H Q => ∃ S a b k, Same S H ∧ Vw K mg S H x a ∧ Vw K mg S H y b ∧ f a b = some k ∧ Q (.bl k) H
theorem ints_of {K : PySem.W.Frag} {S : Hp} : ∀ {vs : List V} {ds : List D} {ns : List Int}, RpL K mg S vs ds → intsOf ds = some ns → vs = ns.map V.int
  | _, [], ns, r, e => by
    cases r
    simp only [intsOf] at e
    cases e
    rfl
  | _, d :: ds, ns, r, e => by
    cases r with
    | cons h r =>
      cases d <;> simp only [intsOf, reduceCtorEq] at e
      rename_i i
      cases e2 : intsOf ds with
      | none => rw [e2] at e; cases e
      | some ms =>
        rw [e2] at e
        cases e
        cases h
        rw [ints_of r e2]
        rfl
theorem lexLt_eq : ∀ as bs : List Int, HT.lexLt as bs = lexLt as bs
  | [], [] => rfl
  | [], _ :: _ => rfl
  | _ :: _, [] => rfl
  | a :: as, b :: bs => by
    unfold HT.lexLt lexLt
    rw [lexLt_eq as bs]
def CmpO.py : CmpO → CmpOp
  | .eq => .Eq | .ne => .NotEq | .lt => .Lt | .le => .LtE | .gt => .Gt | .ge => .GtE | .isN => .Is | .notN => .IsNot | .isIn => .In | .notIn => .NotIn
theorem isIn_py (d : D) (xs : List D) : ((D.pyL xs).any fun z => PyData.eqv z d.py) = isIn d xs := by
  rw [D.pyL_map, List.any_map]
  rfl
theorem vw_isN {K : PySem.W.Frag} {S H : Hp} {v : V} {d : D} (h : Vw K mg S H v d) : decide (v = V.non) = d.isN := by
  rcases h with h | ⟨a, rfl, n, ⟨vs, ds, e1, e2, r⟩ | ⟨kvs, ks, ds, e1, e2, e3, r⟩⟩
  · cases h <;> rfl
  · subst e1; rfl
  · subst e1; rfl
/-- x in t, t a tuple -/
theorem op_inT (hu : X.A.units + 65 < cLine) : OpR X (compareOp .In) (fun x y H Q => ∃ d ds, Dp X.K H x d ∧ Dp X.K H y (.tuple ds) ∧ SeqAt.shaped d = true ∧ SeqAt.shaped (.list ds) = true ∧ Q (.bl (ds.any fun z => PyData.eqv z d)) H) := by
  intro pins s σ H x y v u Q I rx ry h
  obtain ⟨d, ds, hd, he, sd, se, q⟩ := h
  obtain ⟨as, r1⟩ := Dp.reads I d x v hd rx
  obtain ⟨bs, r2⟩ := Dp.reads I (.tuple ds) y u he ry
  exact SeqAt.in_tuple_reads r2 r1 (SeqAt.canLay_of_shaped se) (SeqAt.canLay_of_shaped sd) (room_in_shaped sd hu) ⟨.bl _, H, I, rfl, q⟩
theorem op_notInT (hu : X.A.units + 65 < cLine) : OpR X (compareOp .NotIn) (fun x y H Q => ∃ d ds, Dp X.K H x d ∧ Dp X.K H y (.tuple ds) ∧ SeqAt.shaped d = true ∧ SeqAt.shaped (.list ds) = true ∧ Q (.bl (!ds.any fun z => PyData.eqv z d)) H) := by
  intro pins s σ H x y v u Q I rx ry h
  obtain ⟨d, ds, hd, he, sd, se, q⟩ := h
  obtain ⟨as, r1⟩ := Dp.reads I d x v hd rx
  obtain ⟨bs, r2⟩ := Dp.reads I (.tuple ds) y u he ry
  exact SeqAt.notIn_tuple_reads r2 r1 (SeqAt.canLay_of_shaped se) (SeqAt.canLay_of_shaped sd) (room_in_shaped sd hu) ⟨.bl _, H, I, rfl, q⟩
theorem cmr {k : Nat} (hr : Room k X.A) (c : CmpO) : OpR X (compareOp c.py) (rCm X.K mg (cmp c)) := by
  intro pins s σ H x y v u Q I rx ry h
  obtain ⟨S, a, b, r, sm, hx, hy, e, q⟩ := h
  cases c
  case eq =>
    simp only [cmp] at e
    split at e <;> cases e
    rename_i hk
    rw [Bool.and_eq_true] at hk
    obtain ⟨p1, s1⟩ := eqOk_plain hk.1
    obtain ⟨p2, s2⟩ := eqOk_plain hk.2
    exact op_eqD hr.units pins s σ H x y v u Q I rx ry ⟨_, _, hx.dp sm p1, hy.dp sm p2, s1, s2, q⟩
  case ne =>
    simp only [cmp] at e
    split at e <;> cases e
    rename_i hk
    rw [Bool.and_eq_true] at hk
    obtain ⟨p1, s1⟩ := eqOk_plain hk.1
    obtain ⟨p2, s2⟩ := eqOk_plain hk.2
    exact op_neD hr.units pins s σ H x y v u Q I rx ry ⟨_, _, hx.dp sm p1, hy.dp sm p2, s1, s2, q⟩
  case lt =>
    cases a <;> cases b <;> simp only [cmp, reduceCtorEq] at e
    case int.int i j =>
      cases e
      have ex := hx.int; have ey := hy.int
      subst ex ey
      exact op_lt pins s σ H _ _ v u Q I rx ry ⟨i, j, rfl, rfl, q⟩
    case tup.tup xs ys =>
      cases e1 : intsOf xs with
      | none => rw [e1] at e; cases e
      | some as =>
        cases e2 : intsOf ys with
        | none => rw [e1, e2] at e; cases e
        | some bs =>
          rw [e1, e2] at e
          cases e
          obtain ⟨a, vs, rfl, ha, ha', ra⟩ := hx.tup sm
          obtain ⟨b, ws, rfl, hb, hb', rb⟩ := hy.tup sm
          rw [ints_of ra e1] at ha
          rw [ints_of rb e2] at hb
          exact op_ltT hr.units0 pins s σ H _ _ v u Q I rx ry ⟨a, b, as, bs, rfl, rfl, ha, hb, by rw [lexLt_eq]; exact q⟩
  case le =>
    cases a <;> cases b <;> simp only [cmp, reduceCtorEq] at e
    case int.int i j =>
      cases e
      have ex := hx.int; have ey := hy.int
      subst ex ey
      exact op_le pins s σ H _ _ v u Q I rx ry ⟨i, j, rfl, rfl, q⟩
  case gt =>
    cases a <;> cases b <;> simp only [cmp, reduceCtorEq] at e
    case int.int i j =>
      cases e
      have ex := hx.int; have ey := hy.int
      subst ex ey
      exact op_gt pins s σ H _ _ v u Q I rx ry ⟨i, j, rfl, rfl, q⟩
  case ge =>
    cases a <;> cases b <;> simp only [cmp, reduceCtorEq] at e
    case int.int i j =>
      cases e
      have ex := hx.int; have ey := hy.int
      subst ex ey
      exact op_ge pins s σ H _ _ v u Q I rx ry ⟨i, j, rfl, rfl, q⟩
  case isN =>
    cases b <;> simp only [cmp, reduceCtorEq] at e
    cases e
    refine op_isN pins s σ H _ _ v u Q I rx ry ⟨hy.non, ?_⟩
    rw [vw_isN hx]
    exact q
  case notN =>
    cases b <;> simp only [cmp, reduceCtorEq] at e
    cases e
    refine op_notN pins s σ H _ _ v u Q I rx ry ⟨hy.non, ?_⟩
    rw [vw_isN hx]
    exact q
  case isIn =>
    cases b <;> simp only [cmp, reduceCtorEq] at e
    case lst xs =>
      split at e <;> cases e
      rename_i hk
      unfold inOk at hk
      rw [Bool.and_eq_true] at hk
      obtain ⟨p1, s1⟩ := eqOk_plain hk.1
      obtain ⟨p2, s2⟩ := eqOk_plain hk.2
      have d1 := hx.dp sm p1
      have d2 := hy.dp sm p2
      rw [D.py] at d2 s2
      refine op_inD (by have := hr.un; omega) pins s σ H x y v u Q I rx ry ⟨_, _, d1, d2, s1, s2, ?_⟩
      rw [isIn_py]
      exact q
    case tup xs =>
      split at e <;> cases e
      rename_i hk
      unfold inOk at hk
      rw [Bool.and_eq_true] at hk
      obtain ⟨p1, s1⟩ := eqOk_plain hk.1
      obtain ⟨p2, s2⟩ := eqOk_plain hk.2
      have d1 := hx.dp sm p1
      have d2 : Dp X.K H y (.tuple (D.pyL xs)) := hy.dp sm (show (D.tup xs).plain = true from p2)
      have s2 : SeqAt.shaped (.list (D.pyL xs)) = true := s2
      refine op_inT (by have := hr.un; omega) pins s σ H x y v u Q I rx ry ⟨_, _, d1, d2, s1, s2, ?_⟩
      rw [isIn_py]
      exact q
  case notIn =>
    cases b <;> simp only [cmp, reduceCtorEq] at e
    case lst xs =>
      split at e <;> cases e
      rename_i hk
      unfold inOk at hk
      rw [Bool.and_eq_true] at hk
      obtain ⟨p1, s1⟩ := eqOk_plain hk.1
      obtain ⟨p2, s2⟩ := eqOk_plain hk.2
      have d1 := hx.dp sm p1
      have d2 := hy.dp sm p2
      rw [D.py] at d2 s2
      refine op_notInD (by have := hr.un; omega) pins s σ H x y v u Q I rx ry ⟨_, _, d1, d2, s1, s2, ?_⟩
      rw [isIn_py]
      exact q
    case tup xs =>
      split at e <;> cases e
      rename_i hk
      unfold inOk at hk
      rw [Bool.and_eq_true] at hk
      obtain ⟨p1, s1⟩ := eqOk_plain hk.1
      obtain ⟨p2, s2⟩ := eqOk_plain hk.2
      have d1 := hx.dp sm p1
      have d2 : Dp X.K H y (.tuple (D.pyL xs)) := hy.dp sm (show (D.tup xs).plain = true from p2)
      have s2 : SeqAt.shaped (.list (D.pyL xs)) = true := s2
      refine op_notInT (by have := hr.un; omega) pins s σ H x y v u Q I rx ry ⟨_, _, d1, d2, s1, s2, ?_⟩
      rw [isIn_py]
      exact q
end
end Mini

/- M3b -/
set_option Elab.async false
set_option linter.all false
set_option maxRecDepth 100000
set_option maxHeartbeats 1000000
/-! MINI 3b: what a piece of code does, told by the evaluation; names, constants, operators, displays, subscripts. -/
namespace Mini
open PySem PySem.Spec PyProof.Rows L2 LamX

/-- a result lies so -/
abbrev Lies (α β : Type) := Hp → Hp → Hp → L2.St → Env → α → β → Prop
/-- an exception of the class at cls, its own dict at d, is what is told -/
def ExcV (K : PySem.W.Frag) (mg : Str → Option Value) (S H : Hp) (cls : Value) (d : Option Addr) (c : Str) (pl : List D) : Prop :=
  ∃ C, mg c = some (.ref C) ∧ cls = .ref C ∧ ((pl = [] ∧ d = none) ∨ ∃ dd v z, pl = [z] ∧ d = some dd ∧ S dd = some (.xd [("most", v)]) ∧ Rp K mg S v z)
section
variable (K : PySem.W.Frag) (mg : Str → Option Value) (T : List (Addr × Str))
/-- what is wanted behind code that evaluates so -/
def post {α β : Type} (W : WX) (R : Lies α β) (P : Hp) (la : Lk) (S : Hp) (σ : L2.St) (Q : β → Hp → Prop) : Res α → Prop
  | .ok a ρ' => ∀ v S' H', Rel K mg T P la S' H' σ ρ' → Same S S' → R P S' H' σ ρ' a v → Q v H'
  | .ex c pl ρ' => ∀ cls d S' H', Rel K mg T P la S' H' σ ρ' → Same S S' → ExcV K mg S' H' cls d c pl → W cls d σ H'
  | .bad => False
/-- the reading of code that evaluates so -/
def TR {α β : Type} (W : WX) (R : Lies α β) (g : Den α) : L2.St → Hp → (β → Hp → Prop) → Prop := fun σ H Q =>
  ∃ P la S ρ, Rel K mg T P la S H σ ρ ∧ post K mg T W R P la S σ Q (g ρ)
/-- a result: one that stays, or one's own and nobody else's -/
def lRV : Lies RV V := fun P S H σ ρ r v => match r with
  | .val d => Rp K mg S v d
  | .own d => ∃ a, v = .ref a ∧ OwC K mg S H a d ∧ P a = none ∧ ∀ j, (mutD ρ j).isSome = true → σ[j]? ≠ some (some (V.ref a))
def lD : Lies D V := fun P S H σ ρ d v => Rp K mg S v d
def lO : Lies Opd V := fun P S H σ ρ o v => match o with
  | .sl i => σ[i]? = some (some v)
  | .v d => Rp K mg S v d
  | .t d => False
/-- .. an argument -/
def lA : Lies Opd V := fun P S H σ ρ o v => match o with
  | .sl i => σ[i]? = some (some v)
  | .v d => Rp K mg S v d
  | .t d => ∃ a, v = .ref a ∧ OwC K mg S H a d ∧ P a = none ∧ ∀ j, (mutD ρ j).isSome = true → σ[j]? ≠ some (some (V.ref a))
def lB : Lies Bool Bool := fun _ _ _ _ _ b c => c = b
end

section
variable {K : PySem.W.Frag} {mg : Str → Option Value} {T : List (Addr × Str)} {W : WX} {P S S' H : Hp} {la : Lk} {σ : L2.St} {ρ : Env}
theorem post.mono {α β : Type} {R : Lies α β} {Q : β → Hp → Prop} {r : Res α} (sm : Same S S') (h : post K mg T W R P la S σ Q r) : post K mg T W R P la S' σ Q r := by
  cases r with
  | ok a ρ' => exact fun v S1 H1 r1 e r2 => h v S1 H1 r1 (sm.trans e) r2
  | ex c pl ρ' => exact fun v d S1 H1 r1 e r2 => h v d S1 H1 r1 (sm.trans e) r2
  | bad => exact h
/-- one behind another -/
theorem post.bind {α β γ δ : Type} {R1 : Lies α β} {R2 : Lies γ δ} {Q : δ → Hp → Prop} {r : Res α} {f : α → Den γ} (h : post K mg T W R2 P la S σ Q (r.bind f)) :
    post K mg T W R1 P la S σ (fun v H1 => ∃ S1 ρ1 a, Rel K mg T P la S1 H1 σ ρ1 ∧ Same S S1 ∧ R1 P S1 H1 σ ρ1 a v ∧ post K mg T W R2 P la S1 σ Q (f a ρ1)) r := by
  cases r with
  | ok a ρ' => exact fun v S1 H1 r1 e r2 => ⟨S1, ρ', a, r1, e, r2, post.mono e h⟩
  | ex c pl ρ' => exact h
  | bad => exact h
theorem post.imp {α β : Type} {R : Lies α β} {Q Q' : β → Hp → Prop} {r : Res α} (h : post K mg T W R P la S σ Q r) (i : ∀ v H, Q v H → Q' v H) : post K mg T W R P la S σ Q' r := by
  cases r with
  | ok a ρ' => exact fun v S1 H1 r1 e r2 => i _ _ (h v S1 H1 r1 e r2)
  | ex c pl ρ' => exact h
  | bad => exact h
theorem post.of {α β : Type} {R : Lies α β} {Q : β → Hp → Prop} {o : Option α} (h : post K mg T W R P la S σ Q (Res.of o ρ)) : ∃ a, o = some a ∧ post K mg T W R P la S σ Q (.ok a ρ) := by
  cases o with
  | none => exact h.elim
  | some a => exact ⟨a, rfl, h⟩
/-- where one is: what is done -/
theorem post.here {α β : Type} {R : Lies α β} {Q : β → Hp → Prop} {a : α} {v : β} (h : post K mg T W R P la S σ Q (.ok a ρ)) (R1 : Rel K mg T P la S H σ ρ) (r : R P S H σ ρ a v) : Q v H := h v S H R1 (Same.refl S) r

/-- what was made lies so -/
theorem Made.lies {r : RV} {v : V} {H' : Hp} (R1 : Rel K mg T P la S H σ ρ) (m : Made K mg S H r v H') : ∃ S', Rel K mg T P la S' H' σ ρ ∧ Same S S' ∧ lRV K mg P S' H' σ ρ r v := by
  cases m with
  | same h => exact ⟨S, R1, Same.refl S, h⟩
  | tup n r =>
    rename_i p vs ds
    have sm : Same S (upd S p (.tup vs)) := same_new (none_of_same R1.sub n)
    exact ⟨_, R1.newS n (fun ps z => by cases z), sm, .tup (.inl (.inl upd_same)) (r.mono sm)⟩
  | @lst p vs ds n r =>
    refine ⟨S, R1.newO n, Same.refl S, p, rfl, ⟨none_of_same R1.sub n, .inl ⟨vs, ds, rfl, upd_same, r⟩⟩, none_of_same R1.prot n, mutD_ne R1 n⟩
theorem post.made {Q : V → Hp → Prop} {r : RV} {v : V} {H' : Hp} (h : post K mg T W (lRV K mg) P la S σ Q (.ok r ρ)) (R1 : Rel K mg T P la S H σ ρ) (m : Made K mg S H r v H') : Q v H' := by
  obtain ⟨S1, R2, sm, l⟩ := m.lies R1
  exact h v S1 H' R2 sm l
/-- a result is kept as a value -/
theorem lRV.keep {r : RV} {v : V} (R1 : Rel K mg T P la S H σ ρ) (h : lRV K mg P S H σ ρ r v) : ∃ S', Rel K mg T P la S' H σ ρ ∧ Same S S' ∧ Rp K mg S' v r.d := by
  cases r with
  | val d => exact ⟨S, R1, Same.refl S, h⟩
  | own d =>
    obtain ⟨a, rfl, w, hP, hj⟩ := h
    obtain ⟨o, ho, _⟩ := w.obj
    exact ⟨_, R1.keepO w ho hP hj, (w.freeze ho).1, (w.freeze ho).2⟩
theorem lO.fetch {o : Opd} {v : V} {d : D} (R1 : Rel K mg T P la S H σ ρ) (h : lO K mg P S H σ ρ o v) (e : Mini.fetch ρ o = some d) : Vw K mg S H v d := by
  cases o with
  | sl i =>
    obtain ⟨v', e1, w⟩ := R1.look (show Mini.look i ρ = some d from e)
    have h : σ[i]? = some (some v) := h
    rw [h] at e1
    cases e1
    exact w
  | v d' =>
    cases e
    exact .inl h
  | t d' => exact h.elim
theorem lO.keep {P' H' : Hp} {ρ' : Env} {o : Opd} {v : V} (h : lO K mg P S H σ ρ o v) (sm : Same S S') : lO K mg P' S' H' σ ρ' o v := by
  cases o with
  | sl i => exact h
  | v d => exact Rp.mono sm h
  | t d => exact h.elim
/-- a name's own list is one's own no longer -/
theorem Rel.freeze (R1 : Rel K mg T P la S H σ ρ) {i : Nat} {d : D} (e : ρ[i]? = some (Slot.own d)) : ∃ S' v, σ[i]? = some (some v) ∧ Rel K mg T P la S' H σ (ρ.set i (.val d)) ∧ Same S S' ∧ Rp K mg S' v d := by
  have hm : mutD ρ i = some d := by unfold mutD; rw [e]; rfl
  obtain ⟨a, e1, w, hP⟩ := R1.mu i d hm
  obtain ⟨o, ho, _⟩ := w.obj
  have hi : i < ρ.length := (List.getElem?_eq_some_iff.mp e).1
  have gi : (ρ.set i (.val d))[i]? = some (Slot.val d) := List.getElem?_set_self hi
  have gj : ∀ j, j ≠ i → (ρ.set i (.val d))[j]? = ρ[j]? := fun j hj => List.getElem?_set_ne (Ne.symm hj)
  have mi : mutD (ρ.set i (.val d)) i = none := by unfold mutD; rw [gi]; rfl
  have mj : ∀ j, j ≠ i → mutD (ρ.set i (.val d)) j = mutD ρ j := fun j hj => by unfold mutD; rw [gj j hj]
  have nj : ∀ {j d'}, mutD (ρ.set i (.val d)) j = some d' → j ≠ i := fun h z => by rw [z, mi] at h; cases h
  have sm := (w.freeze ho).1
  refine ⟨upd S a o, .ref a, e1, ⟨fun b x h => ?_, R1.prot, fun b x h => ?_, ⟨R1.nt.1.upd (Tabs.ne_own w o ho).1, R1.nt.2⟩, R1.tabs, fun q hq => ?_, by rw [List.length_set]; exact R1.len, fun j d' h => ?_, fun j d' h => ?_, fun j s h hf => ?_, fun j d' h => ?_, fun j k b hjk h1 h2 => ?_⟩, sm, (w.freeze ho).2⟩
  · by_cases z : b = a
    · subst z; rw [upd_same] at h; cases h; exact ho
    · rw [upd_ne z] at h; exact R1.sub _ _ h
  · rw [upd_ne (fun z => by rw [z, hP] at h; cases h)]
    exact R1.dj b x h
  · obtain ⟨ps, h1, _⟩ := R1.tabs q hq
    have ne : q.1 ≠ a := fun z => by
      rw [z] at h1
      exact (Tabs.ne_own w _ h1).1 _ rfl
    rw [upd_ne ne]
    exact R1.tabN q hq
  · by_cases hj : j = i
    · subst hj
      rw [gi] at h
      cases h
      exact ⟨_, e1, (w.freeze ho).2⟩
    · rw [gj j hj] at h
      obtain ⟨v, h1, r⟩ := R1.val j d' h
      exact ⟨v, h1, r.mono sm⟩
  · have hj := nj h
    rw [mj j hj] at h
    obtain ⟨b, h1, w', h2⟩ := R1.mu j d' h
    have ne : b ≠ a := fun z => R1.inj i j a (Ne.symm hj) (by rw [hm]; rfl) (by rw [h]; rfl) e1 (by rw [← z]; exact h1)
    exact ⟨b, h1, w'.mono sm (by rw [upd_ne ne]; exact w'.1) (fun _ q => q), h2⟩
  · have hj : j ≠ i := fun z => by
      subst z
      rw [gi] at h
      cases h
      cases hf
    rw [gj j hj] at h
    exact R1.fix j s h hf
  · have hj : j ≠ i := fun z => by
      have q := R1.lks j d' h
      rw [z, e] at q
      cases q
    rw [gj j hj]
    exact R1.lks j d' h
  · have hj : j ≠ i := fun z => by rw [z, mi] at h1; cases h1
    have hk : k ≠ i := fun z => by rw [z, mi] at h2; cases h2
    rw [mj j hj] at h1
    rw [mj k hk] at h2
    exact R1.inj j k b hjk h1 h2
end

theorem _root_.L2.PE.imp {X : Cx} {e : Expr} {t t' : TE} (h : PE X e t) (i : ∀ σ H Q, t' σ H Q → t σ H Q) : PE X e t' := ⟨fun pins s σ H Q I hq => h.run pins s σ H Q I (i σ H Q hq)⟩
theorem _root_.L2.PT.imp {X : Cx} {e : Expr} {t t' : TT} (h : PT X e t) (i : ∀ σ H Q, t' σ H Q → t σ H Q) : PT X e t' := ⟨fun pins s σ H Q I hq => h.run pins s σ H Q I (i σ H Q hq)⟩
theorem _root_.L2.PA.imp {X : Cx} {e : List Expr} {t t' : TA} (h : PA X e t) (i : ∀ σ H Q, t' σ H Q → t σ H Q) : PA X e t' := ⟨fun pos pins s σ H Q I hq => h.run pos pins s σ H Q I (i σ H Q hq)⟩
theorem _root_.L2.PS.imp {X : Cx} {e : Stmt} {t t' : TS} (h : PS X e t) (i : ∀ D σ H, t' D σ H → t D σ H) : PS X e t' := ⟨fun pins s σ H D I hq => h.run pins s σ H D I (i D σ H hq)⟩

/-- the judgements: e evaluates as g -/
abbrev SdE (X : Cx) (T : List (Addr × Str)) (W : WX) (e : Expr) (g : Den RV) : Prop := PE X e (TR X.K X.mg T W (lRV X.K X.mg) g)
abbrev SdV (X : Cx) (T : List (Addr × Str)) (W : WX) (e : Expr) (g : Den D) : Prop := PE X e (TR X.K X.mg T W (lD X.K X.mg) g)
abbrev SdO (X : Cx) (T : List (Addr × Str)) (W : WX) (e : Expr) (g : Den Opd) : Prop := PE X e (TR X.K X.mg T W (lO X.K X.mg) g)
abbrev SdT (X : Cx) (T : List (Addr × Str)) (W : WX) (e : Expr) (g : Den Bool) : Prop := PT X e (TR X.K X.mg T W lB g)

section
variable {X : Cx} {T : List (Addr × Str)} {W : WX} {F : Ifc} {pos : Pos}
/-! ### names, constants -/
theorem sd_slot {i : Nat} {x : Str} (hN : X.N[i]? = some x) (hv : Vis X.env.scope x) (hd : (x == ("__debug__" : Str)) = false := by decide) (hcd : (x == ("__classdict__" : Str)) = false := by decide) : SdE X T W (.Name x pos) (denE F (.slot i)) := by
  refine (pe_var hN hv hd hcd).imp fun σ H Q ⟨P, la, S, ρ, R, h⟩ => ?_
  rw [denE] at h
  unfold take at h
  dsimp only at h
  split at h
  · rename_i d e
    obtain ⟨v, e1, r⟩ := R.val i d e
    exact ⟨v, e1, h v S H R (Same.refl S) r⟩
  · rename_i d e
    obtain ⟨S', v, e1, R', sm, r⟩ := R.freeze e
    exact ⟨v, e1, h v S' H R' sm r⟩
  · exact h.elim
theorem sdO_slot {i : Nat} {x : Str} (hN : X.N[i]? = some x) (hv : Vis X.env.scope x) (hd : (x == ("__debug__" : Str)) = false := by decide) (hcd : (x == ("__classdict__" : Str)) = false := by decide) : SdO X T W (.Name x pos) (vO (.slot i) (denE F (.slot i))) := by
  refine (pe_var hN hv hd hcd).imp fun σ H Q ⟨P, la, S, ρ, R, h⟩ => ?_
  unfold vO at h
  dsimp only at h
  split at h
  · rename_i hs
    obtain ⟨d, hd⟩ := Option.isSome_iff_exists.mp hs
    obtain ⟨v, e1, _⟩ := R.look hd
    exact ⟨v, e1, h v S H R (Same.refl S) e1⟩
  · exact h.elim
/-- as a value that is kept -/
theorem sdV {e : Expr} {g : Den RV} (h : SdE X T W e g) : SdV X T W e (vV g) := by
  refine h.imp fun σ H Q ⟨P, la, S, ρ, R, q⟩ => ⟨P, la, S, ρ, R, ?_⟩
  refine (post.bind (R1 := lRV X.K X.mg) q).imp fun v H1 ⟨S1, ρ1, a, R1, sm, l, p⟩ => ?_
  obtain ⟨S2, R2, sm2, r⟩ := lRV.keep R1 l
  exact p v S2 H1 R2 sm2 r
/-- as an operand -/
theorem sdO {e : Expr} {E : E} (h : SdE X T W e (denE F E)) (hs : ∀ i, E ≠ .slot i) : SdO X T W e (vO E (denE F E)) := by
  have he : vO E (denE F E) = fun ρ => (denE F E ρ).bind fun r ρ => .ok (.v r.d) ρ := by
    cases E <;> first | rfl | exact absurd rfl (hs _)
  rw [he]
  refine h.imp fun σ H Q ⟨P, la, S, ρ, R, q⟩ => ⟨P, la, S, ρ, R, ?_⟩
  refine (post.bind (R1 := lRV X.K X.mg) q).imp fun v H1 ⟨S1, ρ1, a, R1, sm, l, p⟩ => ?_
  obtain ⟨S2, R2, sm2, r⟩ := lRV.keep R1 l
  exact p v S2 H1 R2 sm2 r
/-- a constant -/
theorem sd_const {e : Expr} {v : V} {d : D} (h : PE X e (tC v)) (r : ∀ S, Rp X.K X.mg S v d) : SdE X T W e (denE F (.lit d)) := by
  refine h.imp fun σ H Q ⟨P, la, S, ρ, R, q⟩ => ?_
  rw [denE] at q
  exact q v S H R (Same.refl S) (r S)
theorem sd_int {i : Int} {j : Nat} : SdE X T W (.Constant (.int i) j pos) (denE F (.lit (.int i))) := sd_const pe_int fun _ => .int i
theorem sd_bl {i : Bool} {j : Nat} : SdE X T W (.Constant (.bool i) j pos) (denE F (.lit (.bl i))) := sd_const pe_bl fun _ => .bl i
theorem sd_str {i : Str} {j : Nat} : SdE X T W (.Constant (.str i) j pos) (denE F (.lit (.str i))) := sd_const pe_str fun _ => .str i
theorem sd_non {j : Nat} : SdE X T W (.Constant .none j pos) (denE F (.lit .non)) := sd_const pe_non fun _ => .non
/-- a name of the module -/
theorem sd_glob {x : Str} (hg : Gl X x) (hG : ∀ d, F.glob x = some d → ∃ v u, X.mg x = some u ∧ RelV v u ∧ ∀ S, Rp X.K X.mg S v d) (hd : (x == ("__debug__" : Str)) = false := by decide) : SdE X T W (.Name x pos) (denE F (.glob x)) := by
  refine ⟨fun pins s σ H Q I ⟨P, la, S, ρ, R, q⟩ => ?_⟩
  rw [denE] at q
  cases e : F.glob x with
  | none => rw [e] at q; exact q.elim
  | some d =>
    rw [e] at q
    obtain ⟨v, u, hm, r, hr⟩ := hG d e
    exact (pe_glob hg hm r hd).run pins s σ H Q I (q v S H R (Same.refl S) (hr S))

/-! ### two operands -/
/-- an operator by its step -/
theorem sd_op2 {a b : Expr} {A B : E} {g : Den RV} {f : D → D → Option RV} {r : R2} {e : Expr}
    (ha : SdO X T W a (vO A (denE F A))) (hb : SdO X T W b (vO B (denE F B)))
    (he : g = fun ρ => (vO A (denE F A) ρ).bind fun x ρ => (vO B (denE F B) ρ).bind fun y ρ => Res.of ((fetch ρ x).bind fun x => (fetch ρ y).bind fun y => f x y) ρ)
    (h : PE X e (tOp r (TR X.K X.mg T W (lO X.K X.mg) (vO A (denE F A))) (TR X.K X.mg T W (lO X.K X.mg) (vO B (denE F B)))))
    (hr : ∀ x y H Q, rOp X.K X.mg f x y H Q → r x y H Q) : SdE X T W e g := by
  subst he
  refine h.imp fun σ H Q ⟨P, la, S, ρ, R, q⟩ => ⟨P, la, S, ρ, R, ?_⟩
  refine (post.bind (R1 := lO X.K X.mg) q).imp fun x H1 ⟨S1, ρ1, a1, R1, sm1, l1, p1⟩ => ⟨P, la, S1, ρ1, R1, ?_⟩
  refine (post.bind (R1 := lO X.K X.mg) p1).imp fun y H2 ⟨S2, ρ2, a2, R2, sm2, l2, p2⟩ => ?_
  obtain ⟨z, ez, p3⟩ := post.of p2
  cases e1 : fetch ρ2 a1 with
  | none => rw [e1] at ez; cases ez
  | some d1 =>
    cases e2 : fetch ρ2 a2 with
    | none => rw [e1, e2] at ez; cases ez
    | some d2 =>
      rw [e1, e2] at ez
      exact hr x y H2 Q ⟨S2, d1, d2, z, R2.sub, lO.fetch R2 (l1.keep sm2) e1, lO.fetch R2 l2 e2, ez, fun v H' m => post.made p3 R2 m⟩

theorem sd_op {o : Op2} {a b : Expr} {A B : E} (ha : SdO X T W a (vO A (denE F A))) (hb : SdO X T W b (vO B (denE F B))) : SdE X T W (.BinOp a o.py b pos) (denE F (.op o A B)) :=
  sd_op2 ha hb (by rw [denE]) (pe_op (opr o) ha hb) fun _ _ _ _ h => h
/-- one operand -/
theorem sd_un {a e : Expr} {A : E} {g : Den RV} {f : D → Option RV} {r : V → Hp → VK → Prop} (ha : SdO X T W a (vO A (denE F A)))
    (he : g = fun ρ => (vO A (denE F A) ρ).bind fun x ρ => Res.of ((fetch ρ x).bind f) ρ)
    (h : PE X e (tUn r (TR X.K X.mg T W (lO X.K X.mg) (vO A (denE F A)))))
    (hr : ∀ x H Q, (∃ S a z, Same S H ∧ Vw X.K X.mg S H x a ∧ f a = some z ∧ ∀ v H', Made X.K X.mg S H z v H' → Q v H') → r x H Q) : SdE X T W e g := by
  subst he
  refine h.imp fun σ H Q ⟨P, la, S, ρ, R, q⟩ => ⟨P, la, S, ρ, R, ?_⟩
  refine (post.bind (R1 := lO X.K X.mg) q).imp fun x H1 ⟨S1, ρ1, a1, R1, sm1, l1, p1⟩ => ?_
  obtain ⟨z, ez, p3⟩ := post.of p1
  cases e1 : fetch ρ1 a1 with
  | none => rw [e1] at ez; cases ez
  | some d1 =>
    rw [e1] at ez
    exact hr x H1 Q ⟨S1, d1, z, R1.sub, lO.fetch R1 l1 e1, ez, fun v H' m => post.made p3 R1 m⟩
theorem sd_neg {a : Expr} {A : E} (ha : SdO X T W a (vO A (denE F A))) : SdE X T W (.UnaryOp .USub a pos) (denE F (.neg A)) := by
  refine sd_un (f := fun | .int i => some (.val (.int (-i))) | _ => none) ha (by rw [denE] <;> rfl) (pe_un un_neg ha) fun x H Q h => ?_
  obtain ⟨S, a, z, sm, w, e, q⟩ := h
  cases a <;> simp only [reduceCtorEq] at e
  cases e
  exact ⟨_, w.int, q _ _ (.same (.int _))⟩
/-- truth -/
theorem truV {K : PySem.W.Frag} {mg : Str → Option Value} {S H : Hp} (sm : Same S H) {v : V} {d : D} {b : Bool} (h : Vw K mg S H v d) (e : d.tru = some b) : TruV K v H b := by
  cases d with
  | non => cases e; rw [h.non]; rfl
  | bl c => cases e; rw [h.bl]; rfl
  | int i => cases e; rw [h.int]; rfl
  | str x =>
    have ev := h.str
    subst ev
    by_cases hl : x.length ≤ 16777216
    · simp only [D.tru, if_pos hl, Option.some.injEq] at e
      subst e
      exact ⟨by rw [sizeLine_eq]; exact hl, rfl⟩
    · simp only [D.tru, if_neg hl, reduceCtorEq] at e
  | tup xs =>
    cases e
    obtain ⟨a, vs, rfl, ha, _, r⟩ := h.tup sm
    refine .inr (.inl ⟨vs, ha, ?_⟩)
    cases r <;> rfl
  | lst xs =>
    cases e
    obtain ⟨a, vs, rfl, ha, r⟩ := h.lst sm
    refine .inl ⟨vs, .inl (.inl ha), ?_⟩
    cases r <;> rfl
  | dic ks vs =>
    cases e
    obtain ⟨a, kvs, rfl, ha, rfl, r⟩ := h.dic sm
    refine .inr (.inr ⟨kvs, ha, ?_⟩)
    cases kvs <;> rfl
  | fn x => cases e
  | exc c pl => cases e
  | scr ns => cases e
theorem sd_not {a : Expr} {A : E} (ha : SdO X T W a (vO A (denE F A))) : SdE X T W (.UnaryOp .Not a pos) (denE F (.notE A)) := by
  refine sd_un (f := fun x => x.tru.map fun b => .val (.bl (!b))) (r := fun x H Q => ∃ k, TruV X.K x H k ∧ Q (.bl (!k)) H) ha (by rw [denE]) (pe_notT ha) fun x H Q h => ?_
  obtain ⟨S, a, z, sm, w, e, q⟩ := h
  cases e2 : a.tru with
  | none => rw [e2] at e; cases e
  | some b =>
    rw [e2] at e
    cases e
    exact ⟨b, truV sm w e2, q _ _ (.same (.bl _))⟩
/-- e as a test, by truth -/
theorem sdT {e : Expr} {E : E} (h : SdO X T W e (vO E (denE F E))) (he : ∀ whole, isTrue e X.env whole = (do let v ← whole; standAt e.pos; holding [v] (truthy v)) := by intro _; rfl) : SdT X T W e (vT E (denE F E)) := by
  refine (pt_truth h he).imp fun σ H Q ⟨P, la, S, ρ, R, q⟩ => ⟨P, la, S, ρ, R, ?_⟩
  refine (post.bind (R1 := lO X.K X.mg) q).imp fun x H1 ⟨S1, ρ1, a1, R1, sm1, l1, p1⟩ => ?_
  obtain ⟨z, ez, p3⟩ := post.of p1
  cases e1 : fetch ρ1 a1 with
  | none => rw [e1] at ez; cases ez
  | some d1 =>
    rw [e1] at ez
    exact ⟨z, truV R1.sub (lO.fetch R1 l1 e1) ez, p3 z S1 H1 R1 (Same.refl S1) rfl⟩
end
end Mini

/- M3c -/
set_option Elab.async false
set_option linter.all false
set_option maxRecDepth 100000
set_option maxHeartbeats 1000000
/-! MINI 3c: and, or, comparisons, conditional expressions, displays, subscripts. -/
namespace Mini
open PySem PySem.Spec PyProof.Rows L2 LamX
section
variable {K : PySem.W.Frag} {mg : Str → Option Value} {T : List (Addr × Str)} {W : WX} {P S S' H : Hp} {la : Lk} {σ : L2.St} {ρ : Env}
theorem post.ofO {α β : Type} {R : Lies α β} {Q : β → Hp → Prop} {o : Option α} (h : post K mg T W R P la S σ Q (Res.of o ρ)) : ∃ a, o = some a ∧ post K mg T W R P la S σ Q (.ok a ρ) := post.of h
theorem bind2 {α β γ : Type} {o : Option α} {p : Option β} {f : α → β → Option γ} {z : γ} (h : (o.bind fun x => p.bind fun y => f x y) = some z) : ∃ a b, o = some a ∧ p = some b ∧ f a b = some z := by
  cases o with
  | none => cases h
  | some a =>
    cases p with
    | none => cases h
    | some b => exact ⟨a, b, rfl, rfl, h⟩
/-- a truth that is told as a value is told as a test -/
theorem test_of {F : Ifc} {A : E} {k : Bool} {ρ1 : Env} (R : Rel K mg T P la S H σ ρ) (h : denE F A ρ = .ok (.val (.bl k)) ρ1) : vT A (denE F A) ρ = .ok k ρ1 := by
  unfold vT vO
  cases A with
  | slot i =>
    rw [denE] at h
    unfold take at h
    dsimp only at h ⊢
    split at h
    · rename_i d e
      cases h
      have hl : look i ρ = some (.bl k) := by unfold look; rw [e]; rfl
      rw [hl]
      show (Res.ok (Opd.sl i) ρ).bind _ = _
      show Res.of ((look i ρ).bind D.tru) ρ = _
      rw [hl]
      rfl
    · rename_i d e
      cases h
      obtain ⟨a, _, ⟨_, ⟨vs, ds, e1, _⟩ | ⟨kvs, ks, ds, e1, _⟩⟩, _⟩ := R.mu i _ (show mutD ρ i = some (.bl k) by unfold mutD; rw [e]; rfl) <;> cases e1
    · cases h
  | _ => (dsimp only; rw [h]; rfl)
theorem test_ex {F : Ifc} {A : E} {c : Str} {pl : List D} {ρ1 : Env} (h : denE F A ρ = .ex c pl ρ1) : vT A (denE F A) ρ = .ex c pl ρ1 := by
  unfold vT vO
  cases A with
  | slot i =>
    rw [denE] at h
    unfold take at h
    dsimp only at h
    split at h <;> cases h
  | _ => (dsimp only; rw [h]; rfl)
end
/-- as a test, whatever stands around -/
abbrev SdW (X : Cx) (T : List (Addr × Str)) (W : WX) (e : Expr) (g : Den Bool) : Prop := PW X e (TR X.K X.mg T W lB g)
theorem _root_.L2.PW.imp {X : Cx} {e : Expr} {t t' : TT} (h : PW X e t) (i : ∀ σ H Q, t' σ H Q → t σ H Q) : PW X e t' := ⟨fun wh pins s σ H Q I hq => h.run wh pins s σ H Q I (i σ H Q hq)⟩
section
variable {X : Cx} {T : List (Addr × Str)} {W : WX} {F : Ifc} {pos : Pos} {a b c e : Expr} {A B C : E} {rest : List Expr}
theorem sd_one {op : BoolOp} (h : SdE X T W a (denE F A)) : SdE X T W (.BoolOp op [a] pos) (denE F A) := pe_one h
theorem sd_and (ha : SdE X T W a (denE F A)) (hb : SdE X T W (.BoolOp .And (b :: rest) pos) (denE F B)) : SdE X T W (.BoolOp .And (a :: b :: rest) pos) (denE F (.andE A B)) := by
  refine (pe_and ha hb).imp fun σ H Q ⟨P, la, S, ρ, R, q⟩ => ⟨P, la, S, ρ, R, ?_⟩
  rw [denE] at q
  refine (post.bind (R1 := lRV X.K X.mg) q).imp fun x H1 ⟨S1, ρ1, a1, R1, sm1, l1, p1⟩ => ?_
  cases a1 with
  | own d => exact p1.elim
  | val d =>
    cases d <;> first | exact p1.elim | skip
    rename_i k
    have ex : x = .bl k := Vw.bl (.inl l1 : Vw X.K X.mg S1 H1 x (.bl k))
    subst ex
    cases k with
    | false => exact ⟨false, rfl, iteF (p1 _ S1 H1 R1 (Same.refl _) (.bl false))⟩
    | true =>
      refine ⟨true, rfl, iteT ⟨P, la, S1, ρ1, R1, ?_⟩⟩
      refine (post.bind (R1 := lRV X.K X.mg) p1).imp fun y H2 ⟨S2, ρ2, a2, R2, sm2, l2, p2⟩ => ?_
      cases a2 with
      | own d => exact p2.elim
      | val d =>
        cases d <;> first | exact p2.elim | skip
        exact p2 _ S2 H2 R2 (Same.refl _) l2
theorem sd_or (ha : SdE X T W a (denE F A)) (hb : SdE X T W (.BoolOp .Or (b :: rest) pos) (denE F B)) : SdE X T W (.BoolOp .Or (a :: b :: rest) pos) (denE F (.orE A B)) := by
  refine (pe_or ha hb).imp fun σ H Q ⟨P, la, S, ρ, R, q⟩ => ⟨P, la, S, ρ, R, ?_⟩
  rw [denE] at q
  refine (post.bind (R1 := lRV X.K X.mg) q).imp fun x H1 ⟨S1, ρ1, a1, R1, sm1, l1, p1⟩ => ?_
  cases a1 with
  | own d => exact p1.elim
  | val d =>
    cases d <;> first | exact p1.elim | skip
    rename_i k
    have ex : x = .bl k := Vw.bl (.inl l1 : Vw X.K X.mg S1 H1 x (.bl k))
    subst ex
    cases k with
    | true => exact ⟨true, rfl, iteT (p1 _ S1 H1 R1 (Same.refl _) (.bl true))⟩
    | false =>
      refine ⟨false, rfl, iteF ⟨P, la, S1, ρ1, R1, ?_⟩⟩
      refine (post.bind (R1 := lRV X.K X.mg) p1).imp fun y H2 ⟨S2, ρ2, a2, R2, sm2, l2, p2⟩ => ?_
      cases a2 with
      | own d => exact p2.elim
      | val d =>
        cases d <;> first | exact p2.elim | skip
        exact p2 _ S2 H2 R2 (Same.refl _) l2
/-! tests -/
theorem sdw_one {op : BoolOp} (h : SdT X T W a (vT A (denE F A))) : SdW X T W (.BoolOp op [a] pos) (vT A (denE F A)) := by
  cases op
  · exact pw_and1 h
  · exact pw_or1 h
theorem vT_and {ρ : Env} : vT (.andE A B) (denE F (.andE A B)) ρ = (denE F (.andE A B) ρ).bind fun r ρ => Res.of r.d.tru ρ := by
  unfold vT vO
  dsimp only
  cases denE F (.andE A B) ρ <;> rfl
theorem vT_or {ρ : Env} : vT (.orE A B) (denE F (.orE A B)) ρ = (denE F (.orE A B) ρ).bind fun r ρ => Res.of r.d.tru ρ := by
  unfold vT vO
  dsimp only
  cases denE F (.orE A B) ρ <;> rfl
theorem sdw_and (ha : SdT X T W a (vT A (denE F A))) (hb : SdW X T W (.BoolOp .And (b :: rest) pos) (vT B (denE F B))) : SdW X T W (.BoolOp .And (a :: b :: rest) pos) (vT (.andE A B) (denE F (.andE A B))) := by
  refine (pw_and ha hb).imp fun σ H Q ⟨P, la, S, ρ, R, q⟩ => ⟨P, la, S, ρ, R, ?_⟩
  rw [vT_and, denE] at q
  dsimp only at q
  cases e1 : denE F A ρ with
  | bad => rw [e1] at q; exact q.elim
  | ex c pl ρ1 => rw [e1] at q; rw [test_ex e1]; exact q
  | ok r ρ1 =>
    rw [e1] at q
    cases r with
    | own d => exact q.elim
    | val d =>
      cases d <;> first | exact q.elim | skip
      rename_i k
      rw [test_of R e1]
      intro x S1 H1 R1 sm1 l1
      have l1 : x = k := l1
      subst l1
      cases x with
      | false => exact iteF (q false S1 H1 R1 sm1 rfl)
      | true =>
        refine iteT ⟨P, la, S1, ρ1, R1, ?_⟩
        have q : post X.K X.mg T W lB P la S1 σ Q (((denE F B ρ1).bind lastB).bind fun r ρ => Res.of r.d.tru ρ) := post.mono sm1 q
        cases e2 : denE F B ρ1 with
        | bad => rw [e2] at q; exact q.elim
        | ex c pl ρ2 => rw [e2] at q; rw [test_ex e2]; exact q
        | ok r2 ρ2 =>
          rw [e2] at q
          cases r2 with
          | own d => exact q.elim
          | val d =>
            cases d <;> first | exact q.elim | skip
            rw [test_of R1 e2]
            exact q
theorem sdw_or (ha : SdT X T W a (vT A (denE F A))) (hb : SdW X T W (.BoolOp .Or (b :: rest) pos) (vT B (denE F B))) : SdW X T W (.BoolOp .Or (a :: b :: rest) pos) (vT (.orE A B) (denE F (.orE A B))) := by
  refine (pw_or ha hb).imp fun σ H Q ⟨P, la, S, ρ, R, q⟩ => ⟨P, la, S, ρ, R, ?_⟩
  rw [vT_or, denE] at q
  dsimp only at q
  cases e1 : denE F A ρ with
  | bad => rw [e1] at q; exact q.elim
  | ex c pl ρ1 => rw [e1] at q; rw [test_ex e1]; exact q
  | ok r ρ1 =>
    rw [e1] at q
    cases r with
    | own d => exact q.elim
    | val d =>
      cases d <;> first | exact q.elim | skip
      rename_i k
      rw [test_of R e1]
      intro x S1 H1 R1 sm1 l1
      have l1 : x = k := l1
      subst l1
      cases x with
      | true => exact iteT (q true S1 H1 R1 sm1 rfl)
      | false =>
        refine iteF ⟨P, la, S1, ρ1, R1, ?_⟩
        have q : post X.K X.mg T W lB P la S1 σ Q (((denE F B ρ1).bind lastB).bind fun r ρ => Res.of r.d.tru ρ) := post.mono sm1 q
        cases e2 : denE F B ρ1 with
        | bad => rw [e2] at q; exact q.elim
        | ex c pl ρ2 => rw [e2] at q; rw [test_ex e2]; exact q
        | ok r2 ρ2 =>
          rw [e2] at q
          cases r2 with
          | own d => exact q.elim
          | val d =>
            cases d <;> first | exact q.elim | skip
            rw [test_of R1 e2]
            exact q
theorem sdt_not (ha : SdT X T W a (vT A (denE F A))) : SdT X T W (.UnaryOp .Not a pos) (vT (.notE A) (denE F (.notE A))) := by
  refine (pt_not ha).imp fun σ H Q ⟨P, la, S, ρ, R, q⟩ => ⟨P, la, S, ρ, R, ?_⟩
  have e : vT (.notE A) (denE F (.notE A)) ρ = (vT A (denE F A) ρ).bind fun b ρ => .ok (!b) ρ := by
    show ((denE F (.notE A) ρ).bind fun r ρ => .ok (Opd.v r.d) ρ).bind (fun o ρ => Res.of ((fetch ρ o).bind D.tru) ρ) = _
    rw [denE]
    unfold vT
    dsimp only
    cases vO A (denE F A) ρ with
    | bad => rfl
    | ex c pl ρ1 => rfl
    | ok o ρ1 =>
      simp only [Res.bind_ok]
      cases fetch ρ1 o with
      | none => rfl
      | some d =>
        simp only [Option.bind_some]
        cases d.tru with
        | none => rfl
        | some b => rfl
  rw [e] at q
  refine (post.bind (R1 := lB) q).imp fun x H1 ⟨S1, ρ1, a1, R1, sm1, l1, p1⟩ => ?_
  have l1 : x = a1 := l1
  subst l1
  exact p1 _ S1 H1 R1 (Same.refl _) rfl

/-! ### comparisons -/
theorem sd_cmp {k : Nat} {o : CmpO} (hr : Room k X.A) (ha : SdO X T W a (vO A (denE F A))) (hb : SdO X T W b (vO B (denE F B))) (hm : behindInMarks o.py b = false) : SdE X T W (.Compare a [o.py] [b] pos) (denE F (.cmp o A B)) := by
  refine sd_op2 (f := fun x y => (cmp o x y).map fun b => .val (.bl b)) ha hb (by rw [denE]) (pe_cmpR (cmr (mg := X.mg) hr o) ha hb hm) fun x y H Q h => ?_
  obtain ⟨S, a, b, r, sm, h1, h2, e, q⟩ := h
  dsimp only at e
  cases e2 : cmp o a b with
  | none => rw [e2] at e; cases e
  | some z =>
    rw [e2] at e
    cases e
    exact ⟨S, a, b, z, sm, h1, h2, e2, q _ _ (.same (.bl _))⟩
theorem sdt_cmp {k : Nat} {o : CmpO} (hr : Room k X.A) (ha : SdO X T W a (vO A (denE F A))) (hb : SdO X T W b (vO B (denE F B))) (hm : behindInMarks o.py b = false) : SdT X T W (.Compare a [o.py] [b] pos) (vT (.cmp o A B) (denE F (.cmp o A B))) := by
  refine (pt_cmpR (cmr (mg := X.mg) hr o) ha hb hm).imp fun σ H Q ⟨P, la, S, ρ, R, q⟩ => ⟨P, la, S, ρ, R, ?_⟩
  have e : vT (.cmp o A B) (denE F (.cmp o A B)) ρ = (vO A (denE F A) ρ).bind fun x ρ => (vO B (denE F B) ρ).bind fun y ρ => Res.of ((fetch ρ x).bind fun x => (fetch ρ y).bind fun y => cmp o x y) ρ := by
    show ((denE F (.cmp o A B) ρ).bind fun r ρ => .ok (Opd.v r.d) ρ).bind (fun o ρ => Res.of ((fetch ρ o).bind D.tru) ρ) = _
    rw [denE]
    dsimp only
    cases vO A (denE F A) ρ with
    | bad => rfl
    | ex c pl ρ1 => rfl
    | ok x ρ1 =>
      simp only [Res.bind_ok]
      cases vO B (denE F B) ρ1 with
      | bad => rfl
      | ex c pl ρ1 => rfl
      | ok y ρ2 =>
        simp only [Res.bind_ok]
        cases fetch ρ2 x with
        | none => rfl
        | some d =>
          cases fetch ρ2 y with
          | none => rfl
          | some d2 =>
            simp only [Option.bind_some]
            cases cmp o d d2 <;> rfl
  rw [e] at q
  refine (post.bind (R1 := lO X.K X.mg) q).imp fun x H1 ⟨S1, ρ1, a1, R1, sm1, l1, p1⟩ => ⟨P, la, S1, ρ1, R1, ?_⟩
  refine (post.bind (R1 := lO X.K X.mg) p1).imp fun y H2 ⟨S2, ρ2, a2, R2, sm2, l2, p2⟩ => ?_
  obtain ⟨z, ez, p3⟩ := post.of p2
  obtain ⟨d1, d2, e1, e2, e3⟩ := bind2 ez
  exact ⟨S2, d1, d2, z, R2.sub, lO.fetch R2 (l1.keep sm2) e1, lO.fetch R2 l2 e2, e3, z, rfl, p3 z S2 H2 R2 (Same.refl _) rfl⟩

/-! chains of two comparisons -/
theorem chain_go {k : Nat} {c1 c2 : CmpO} {Q : V → Hp → Prop} {σ : L2.St} {H : Hp} (h : TR X.K X.mg T W (lRV X.K X.mg) (denE F (.chain c1 c2 A B C)) σ H Q) :
    tChain (rCm X.K X.mg (cmp c1)) (rCm X.K X.mg (cmp c2)) (TR X.K X.mg T W (lO X.K X.mg) (vO A (denE F A))) (TR X.K X.mg T W (lO X.K X.mg) (vO B (denE F B))) (TR X.K X.mg T W (lO X.K X.mg) (vO C (denE F C))) σ H Q := by
  obtain ⟨P, la, S, ρ, R, q⟩ := h
  rw [denE] at q
  refine ⟨P, la, S, ρ, R, ?_⟩
  refine (post.bind (R1 := lO X.K X.mg) q).imp fun x H1 ⟨S1, ρ1, a1, R1, sm1, l1, p1⟩ => ⟨P, la, S1, ρ1, R1, ?_⟩
  refine (post.bind (R1 := lO X.K X.mg) p1).imp fun y H2 ⟨S2, ρ2, a2, R2, sm2, l2, p2⟩ => ?_
  cases e0 : ((fetch ρ2 a1).bind fun x => (fetch ρ2 a2).bind fun y => cmp c1 x y) with
  | none => rw [e0] at p2; exact p2.elim
  | some k0 =>
    rw [e0] at p2
    obtain ⟨d1, d2, e1, e2, e3⟩ := bind2 e0
    refine ⟨S2, d1, d2, k0, R2.sub, lO.fetch R2 (l1.keep sm2) e1, lO.fetch R2 l2 e2, e3, k0, rfl, ?_⟩
    cases k0 with
    | false => exact iteF (p2 _ S2 H2 R2 (Same.refl _) (.bl false))
    | true =>
      refine iteT ⟨P, la, S2, ρ2, R2, ?_⟩
      refine (post.bind (R1 := lO X.K X.mg) p2).imp fun z H3 ⟨S3, ρ3, a3, R3, sm3, l3, p3⟩ => ?_
      obtain ⟨u, eu, p4⟩ := post.of p3
      obtain ⟨d3, d4, e4, e5, e6⟩ := bind2 eu
      cases e7 : cmp c2 d3 d4 with
      | none => rw [e7] at e6; cases e6
      | some k2 =>
        rw [e7] at e6
        cases e6
        exact ⟨S3, d3, d4, k2, R3.sub, lO.fetch R3 (l2.keep sm3) e4, lO.fetch R3 l3 e5, e7, p4 _ S3 H3 R3 (Same.refl _) (.bl k2)⟩
theorem sd_chain {k : Nat} {c1 c2 : CmpO} (hr : Room k X.A) (ha : SdO X T W a (vO A (denE F A))) (hb : SdO X T W b (vO B (denE F B))) (hc : SdO X T W c (vO C (denE F C)))
    (hm : lastMarks [c1.py, c2.py] [b, c] = false) : SdE X T W (.Compare a [c1.py, c2.py] [b, c] pos) (denE F (.chain c1 c2 A B C)) :=
  (pe_chain (cmr (mg := X.mg) hr c1) (cmr (mg := X.mg) hr c2) ha hb hc hm).imp fun _ _ _ h => chain_go (k := k) h
theorem chain_bl {c1 c2 : CmpO} {ρ ρ' : Env} {r : RV} (h : denE F (.chain c1 c2 A B C) ρ = .ok r ρ') : ∃ k, r = .val (.bl k) := by
  rw [denE] at h
  dsimp only at h
  cases e1 : vO A (denE F A) ρ with
  | bad => rw [e1] at h; cases h
  | ex c pl ρ1 => rw [e1] at h; cases h
  | ok x ρ1 =>
    rw [e1, Res.bind_ok] at h
    cases e2 : vO B (denE F B) ρ1 with
    | bad => rw [e2] at h; cases h
    | ex c pl ρ1 => rw [e2] at h; cases h
    | ok y ρ2 =>
      rw [e2, Res.bind_ok] at h
      cases e3 : ((fetch ρ2 x).bind fun x => (fetch ρ2 y).bind fun y => cmp c1 x y) with
      | none => rw [e3] at h; cases h
      | some k =>
        rw [e3, Res.of_some, Res.bind_ok] at h
        cases k with
        | false => simp only [Bool.false_eq_true, if_false] at h; cases h; exact ⟨_, rfl⟩
        | true =>
          simp only [if_true] at h
          cases e4 : vO C (denE F C) ρ2 with
          | bad => rw [e4] at h; cases h
          | ex c pl ρ1 => rw [e4] at h; cases h
          | ok z ρ3 =>
            rw [e4, Res.bind_ok] at h
            cases e5 : ((fetch ρ3 y).bind fun y => (fetch ρ3 z).bind fun z => (cmp c2 y z).map fun b => RV.val (D.bl b)) with
            | none => rw [e5] at h; cases h
            | some u =>
              rw [e5] at h
              cases h
              obtain ⟨d3, d4, _, _, e6⟩ := bind2 e5
              cases e7 : cmp c2 d3 d4 with
              | none => rw [e7] at e6; cases e6
              | some k2 => rw [e7] at e6; cases e6; exact ⟨_, rfl⟩
theorem sdt_chain {k : Nat} {c1 c2 : CmpO} (hr : Room k X.A) (ha : SdO X T W a (vO A (denE F A))) (hb : SdO X T W b (vO B (denE F B))) (hc : SdO X T W c (vO C (denE F C)))
    (hm : lastMarks [c1.py, c2.py] [b, c] = false) : SdT X T W (.Compare a [c1.py, c2.py] [b, c] pos) (vT (.chain c1 c2 A B C) (denE F (.chain c1 c2 A B C))) := by
  refine (pt_chain (cmr (mg := X.mg) hr c1) (cmr (mg := X.mg) hr c2) ha hb hc hm).imp fun σ H Q ⟨P, la, S, ρ, R, q⟩ => ?_
  refine chain_go (k := k) ⟨P, la, S, ρ, R, ?_⟩
  have e : vT (.chain c1 c2 A B C) (denE F (.chain c1 c2 A B C)) ρ = (denE F (.chain c1 c2 A B C) ρ).bind fun r ρ => Res.of r.d.tru ρ := by
    show ((denE F (.chain c1 c2 A B C) ρ).bind fun r ρ => .ok (Opd.v r.d) ρ).bind (fun o ρ => Res.of ((fetch ρ o).bind D.tru) ρ) = _
    cases denE F (.chain c1 c2 A B C) ρ <;> rfl
  rw [e] at q
  cases e1 : denE F (.chain c1 c2 A B C) ρ with
  | bad => rw [e1] at q; exact q.elim
  | ex c pl ρ1 => rw [e1] at q; exact q
  | ok r ρ1 =>
    obtain ⟨k, rfl⟩ := chain_bl e1
    rw [e1] at q
    intro v S1 H1 R1 sm1 l1
    exact ⟨k, Vw.bl (.inl l1 : Vw X.K X.mg S1 H1 v (.bl k)), q k S1 H1 R1 sm1 rfl⟩
/-! ### conditional expressions -/
theorem sd_ite (hc : SdT X T W c (vT C (denE F C))) (ha : SdV X T W a (vV (denE F A))) (hb : SdV X T W b (vV (denE F B))) : SdE X T W (.IfExp c a b pos) (denE F (.ite C A B)) := by
  refine (pe_ifExp hc ha hb).imp fun σ H Q ⟨P, la, S, ρ, R, q⟩ => ⟨P, la, S, ρ, R, ?_⟩
  rw [denE] at q
  refine (post.bind (R1 := lB) q).imp fun k H1 ⟨S1, ρ1, a1, R1, sm1, l1, p1⟩ => ?_
  have l1 : k = a1 := l1
  subst l1
  cases k with
  | true =>
    refine iteT ⟨P, la, S1, ρ1, R1, ?_⟩
    refine (post.bind (R1 := lD X.K X.mg) p1).imp fun x H2 ⟨S2, ρ2, a2, R2, sm2, l2, p2⟩ => p2 _ S2 H2 R2 (Same.refl _) l2
  | false =>
    refine iteF ⟨P, la, S1, ρ1, R1, ?_⟩
    refine (post.bind (R1 := lD X.K X.mg) p1).imp fun x H2 ⟨S2, ρ2, a2, R2, sm2, l2, p2⟩ => p2 _ S2 H2 R2 (Same.refl _) l2
end
end Mini

/- M3d -/
set_option Elab.async false
set_option linter.all false
set_option maxRecDepth 100000
set_option maxHeartbeats 1000000
/-! MINI 3d: displays, subscripts, slices. -/
namespace Mini
open PySem PySem.Spec PyProof.Rows L2 LamX
/-- values of a list -/
def lDs (K : PySem.W.Frag) (mg : Str → Option Value) : Lies (List D) (List V) := fun P S H σ ρ ds vs => RpL K mg S vs ds
abbrev SdA (X : Cx) (T : List (Addr × Str)) (W : WX) (es : List Expr) (g : Den (List D)) : Prop := PA X es (TR X.K X.mg T W (lDs X.K X.mg) g)
section
variable {X : Cx} {pins : List (Addr × Obj)} {σ : L2.St} {H : Hp} {s : Shared}
theorem star_lst {a : Addr} {xs : List V} {E : Value → Shared → Prop} {Q : List Value → Shared → Prop} (I : Inv X pins σ H s) (h : SqL X.K H a xs) (hQ : ∀ us s', Inv X pins σ H s' → Vals xs us → Q us s') :
    PySem.W.StarOf (model X.prog X.w) X.A E (.ref a) Q s := by
  obtain ⟨its, r, pl, hz⟩ := I.list h
  obtain ⟨o, ho, hc, n, hd⟩ := pl.isList
  have hT : s.TypeIs (.ref a) "list" := ⟨o, ho, hc⟩
  have hl := r.length
  have z : wpAny (model X.prog X.w) X.A (collect (.ref a)) Q E s := by
    refine wpAny_collect_seq a (.inl rfl) ho hc hd (fun h' hk => ?_) (by rw [List.size_toArray]; omega)
    have e : its.toArray.toList = its := by simp
    rw [e]
    exact hQ its _ (I.kept (t' := s.toks) hk) r
  unfold PySem.W.StarOf notIterableAtAll
  exact wpAny_bind (wpAny_specialOf hT PySem.F.slot_list_iter.lookup (wpAny_pure ⟨rfl, z⟩))
end
section
variable {X : Cx} {T : List (Addr × Str)} {W : WX} {F : Ifc} {pos p : Pos} {a b c e : Expr} {A B C : E} {es : List Expr} {g : Den RV} {gs : List (Den RV)} {st : List Bool}
theorem sda_nil : SdA X T W [] (spr [] []) := pa_nil.imp fun σ H Q ⟨P, la, S, ρ, R, q⟩ => q [] S H R (Same.refl _) .nil
theorem sda_cons (ha : SdE X T W e g) (hs : SdA X T W es (spr st gs)) (he : starEach (e :: es) X.env = (false, eval e X.env) :: starEach es X.env) : SdA X T W (e :: es) (spr (false :: st) (g :: gs)) := by
  refine (pa_cons (sdV ha) hs he).imp fun σ H Q ⟨P, la, S, ρ, R, q⟩ => ⟨P, la, S, ρ, R, ?_⟩
  rw [spr] at q
  refine (post.bind (R1 := lD X.K X.mg) q).imp fun x H1 ⟨S1, ρ1, a1, R1, sm1, l1, p1⟩ => ⟨P, la, S1, ρ1, R1, ?_⟩
  refine (post.bind (R1 := lDs X.K X.mg) p1).imp fun y H2 ⟨S2, ρ2, a2, R2, sm2, l2, p2⟩ => ?_
  exact p2 _ S2 H2 R2 (Same.refl _) (.cons (Rp.mono sm2 l1) l2)
theorem sda_star (ha : SdE X T W e g) (hs : SdA X T W es (spr st gs)) : SdA X T W (.Starred e p :: es) (spr (true :: st) (g :: gs)) := by
  refine ⟨fun pos pins s σ H Q I ⟨P, la, S, ρ, R, q⟩ => ?_⟩
  rw [spr] at q
  refine PySem.W.items_star (thn ((sdV ha).run pins s σ H _ I ⟨P, la, S, ρ, R, post.bind (R1 := lD X.K X.mg) q⟩) fun u s1 ⟨x, H1, I1, r1, S1, ρ1, d, R1, sm1, l1, p1⟩ => ?_)
  have l1 : Rp X.K X.mg S1 x d := l1
  have go : ∀ {a : Addr} {vs : List V} {xs : List D}, u = .ref a → seqTL d = some xs → RpL X.K X.mg S1 vs xs → (∀ us s', Inv X pins σ H1 s' → Vals vs us →
      wpAny (model X.prog X.w) X.A (spliced (backTo pos (starEach es X.env))) (fun ws s₃ => AP X pins σ Q (us ++ ws) s₃) X.xe s') := fun {a vs xs} eu ex rv us s' I' r' => by
    rw [ex] at p1
    refine thn (hs.run pos pins s' σ H1 _ I' ⟨P, la, S1, ρ1, R1, post.bind (R1 := lDs X.K X.mg) p1⟩) fun ws s3 ⟨zs, H2, I2, r2, S2, ρ2, ds, R2, sm2, l2, p2⟩ => ?_
    exact ⟨vs ++ zs, H2, I2, r'.append r2, p2 _ S2 H2 R2 (Same.refl _) ((RpL.mono sm2 rv).append l2)⟩
  cases l1 with
  | tup h r =>
    obtain rfl := r1
    exact L2.star_tup I1 (same_seqT R1.sub h) fun us s' I' r' => go rfl rfl r us s' I' r'
  | lst h r =>
    obtain rfl := r1
    exact star_lst I1 (.inl (.inl (R1.sub _ _ h))) fun us s' I' r' => go rfl rfl r us s' I' r'
  | _ => exact p1.elim
theorem sd_tup {es : List Expr} {Es : List E} {k : Nat} (h : SdA X T W es (spr st (denL F Es))) : SdE X T W (.Tuple es k pos) (denE F (.tup st Es)) := by
  refine (pe_tup h).imp fun σ H Q ⟨P, la, S, ρ, R, q⟩ => ⟨P, la, S, ρ, R, ?_⟩
  rw [denE] at q
  refine (post.bind (R1 := lDs X.K X.mg) q).imp fun vs H1 ⟨S1, ρ1, ds, R1, sm1, l1, p1⟩ => ?_
  have l1 : RpL X.K X.mg S1 vs ds := l1
  by_cases hl : ds.length ≤ line
  · simp only [if_pos hl] at p1
    exact ⟨by rw [line_eq, l1.length]; exact hl, fun p np => post.made p1 R1 (.tup np l1)⟩
  · simp only [if_neg hl] at p1
    exact p1.elim
theorem sd_lst {es : List Expr} {Es : List E} (h : SdA X T W es (spr st (denL F Es))) : SdE X T W (.List es pos) (denE F (.lst st Es)) := by
  refine (pe_lst h).imp fun σ H Q ⟨P, la, S, ρ, R, q⟩ => ⟨P, la, S, ρ, R, ?_⟩
  rw [denE] at q
  refine (post.bind (R1 := lDs X.K X.mg) q).imp fun vs H1 ⟨S1, ρ1, ds, R1, sm1, l1, p1⟩ => ?_
  have l1 : RpL X.K X.mg S1 vs ds := l1
  by_cases hl : ds.length ≤ line
  · simp only [if_pos hl] at p1
    exact ⟨by rw [line_eq, l1.length]; exact hl, fun p np => post.made p1 R1 (.lst np l1)⟩
  · simp only [if_neg hl] at p1
    exact p1.elim

/-! ### a[i] -/
theorem atI_v {K : PySem.W.Frag} {mg : Str → Option Value} {S : Hp} {vs : List V} {ds : List D} {i : Int} {d : D} (r : RpL K mg S vs ds) (e : atI ds i = some d) : ∃ v, L2.atI vs i = some v ∧ Rp K mg S v d := by
  have hl := r.length
  unfold atI at e
  unfold L2.atI ixN
  by_cases h0 : 0 ≤ i
  · rw [if_pos h0] at e
    obtain ⟨v, e1, e2⟩ := r.get e
    have hi : i.toNat < vs.length := (List.getElem?_eq_some_iff.mp e1).1
    rw [if_pos h0, if_pos (by omega)]
    exact ⟨v, e1, e2⟩
  · rw [if_neg h0] at e
    by_cases h1 : -(ds.length : Int) ≤ i
    · rw [if_pos h1] at e
      obtain ⟨v, e1, e2⟩ := r.get e
      rw [if_neg h0, if_pos (by omega)]
      have : (i + (vs.length : Int)).toNat = ((ds.length : Int) + i).toNat := by omega
      show ∃ v, vs[(i + (vs.length : Int)).toNat]? = some v ∧ _
      rw [this]
      exact ⟨v, e1, e2⟩
    · rw [if_neg h1] at e; cases e
/-- what stands as a plain subscript -/
def plainB : Expr → Bool
  | .Slice .. => false
  | _ => true
theorem plainB_ix {b : Expr} (h : plainB b = true) : PlainIx b := fun o i => by
  cases b <;> first | rfl | cases h
theorem keyEq_eq (k k' : Key) : keyEq (keyD k) (keyD k') = decide (k = k') := by
  cases k with
  | inl i =>
    cases k' with
    | inl j => exact (key_ll i j).symm ▸ (by show decide (i = j) = (i == j); exact (Bool.beq_eq_decide_eq i j).symm)
    | inr y => exact (key_lr i y).symm
  | inr x =>
    cases k' with
    | inl j => exact (key_rl x j).symm
    | inr y => exact (key_rr x y).symm
theorem keyOk_key {k : D} (h : keyOk k = true) : ∃ k', k = keyD k' := by
  cases k <;> first | exact ⟨.inl _, rfl⟩ | exact ⟨.inr _, rfl⟩ | cases h
theorem getK_val {K : PySem.W.Frag} {mg : Str → Option Value} {S : Hp} {k : Key} : ∀ {kvs : List (Key × V)} {ds : List D} {d : D}, RpL K mg S (kvs.map (·.2)) ds → getK (kvs.map fun p => keyD p.1) ds (keyD k) = some d → ∃ v, valV kvs k = some v ∧ Rp K mg S v d
  | [], ds, d, _, e => by cases ds <;> cases e
  | p :: kvs, ds, d, r, e => by
    have r2 : RpL K mg S (p.2 :: kvs.map (·.2)) ds := r
    clear r
    cases r2 with
    | @cons _ _ d0 ds h r =>
      have e : (if keyEq (keyD p.1) (keyD k) = true then some d0 else getK (kvs.map fun p => keyD p.1) ds (keyD k)) = some d := e
      rw [keyEq_eq] at e
      by_cases hk : p.1 = k
      · rw [decide_eq_true hk, if_pos rfl] at e
        cases e
        exact ⟨_, valV_pos hk, h⟩
      · rw [decide_eq_false hk, if_neg Bool.false_ne_true] at e
        obtain ⟨v, e1, e2⟩ := getK_val (kvs := kvs) r e
        exact ⟨v, (valV_neg hk).trans e1, e2⟩
theorem rp_key {K : PySem.W.Frag} {mg : Str → Option Value} {S : Hp} {y : V} {k : Key} (h : Rp K mg S y (keyD k)) : y = kV k := by
  cases k <;> (cases h; rfl)
/-- a[i], by values -/
def rIxD (K : PySem.W.Frag) (mg : Str → Option Value) : R2 := fun x y H Q => ∃ S a b d, Same S H ∧ Vw K mg S H x a ∧ Rp K mg S y b ∧ idx a b = some d ∧ ∀ v, Rp K mg S v d → Q v H
theorem ixr {k : Nat} (hr : Room k X.A) : IxR X (rIxD X.K X.mg) := by
  intro value slice pins s σ H x y v u Q I rx ry h hs
  obtain ⟨S, a, b, d, sm, hx, hy, e, q⟩ := h
  cases a <;> cases b <;> simp only [idx, reduceCtorEq] at e
  case tup.int xs i =>
    cases hy
    obtain ⟨a, vs, rfl, ha, _, r⟩ := hx.tup sm
    obtain ⟨w, e1, e2⟩ := atI_v r e
    exact ix_tup value slice pins s σ H _ _ v u Q I rx ry ⟨a, vs, i, w, rfl, rfl, ha, e1, q w e2⟩ hs
  case lst.int xs i =>
    cases hy
    obtain ⟨a, vs, rfl, ha, r⟩ := hx.lst sm
    obtain ⟨w, e1, e2⟩ := atI_v r e
    exact ix_list value slice pins s σ H _ _ v u Q I rx ry ⟨a, vs, i, w, rfl, rfl, .inl (.inl ha), e1, q w e2⟩ hs
  all_goals
    split at e <;> first | cases e | skip
    rename_i hk
    obtain ⟨k', ek⟩ := keyOk_key hk
    obtain ⟨a, kvs, rfl, ha, rfl, r⟩ := hx.dic sm
    rw [ek] at e hy
    have ey := rp_key hy
    subst ey
    obtain ⟨w, e1, e2⟩ := getK_val r e
    have g : DGet H a (kV k') (some w) := by rw [← e1]; exact DGet.k ha
    cases rx
    exact tail_any (dict_typeIs I g) PySem.F.slot_dict_getitem.lookup (d_getItem (hu_of hr) I g ry fun w' s3 I3 rw' => ⟨w, H, I3, rw', q w e2⟩) hs
end
end Mini

/- M3e -/
set_option Elab.async false
set_option linter.all false
set_option maxRecDepth 100000
set_option maxHeartbeats 1000000
/-! MINI 3e: subscripts, slices, built-ins. -/
namespace Mini
open PySem PySem.Spec PyProof.Rows L2 LamX
section
variable {X : Cx} {T : List (Addr × Str)} {W : WX} {F : Ifc} {pos p : Pos} {a b c e : Expr} {A B C : E} {es : List Expr}
theorem sd_idx {k : Nat} (hr : Room k X.A) (ha : SdO X T W a (vO A (denE F A))) (hb : SdV X T W b (vV (denE F B))) (hp : plainB b = true) : SdE X T W (.Subscript a b pos) (denE F (.idx A B)) := by
  refine (pe_ix (ixr hr) ha hb (plainB_ix hp)).imp fun σ H Q ⟨P, la, S, ρ, R, q⟩ => ⟨P, la, S, ρ, R, ?_⟩
  rw [denE] at q
  refine (post.bind (R1 := lO X.K X.mg) q).imp fun x H1 ⟨S1, ρ1, a1, R1, sm1, l1, p1⟩ => ⟨P, la, S1, ρ1, R1, ?_⟩
  refine (post.bind (R1 := lD X.K X.mg) p1).imp fun y H2 ⟨S2, ρ2, d2, R2, sm2, l2, p2⟩ => ?_
  obtain ⟨z, ez, p3⟩ := post.of p2
  cases e1 : fetch ρ2 a1 with
  | none => rw [e1] at ez; cases ez
  | some d1 =>
    rw [e1] at ez
    dsimp only [Option.bind_some] at ez
    cases e2 : idx d1 d2 with
    | none => rw [e2] at ez; cases ez
    | some d =>
      rw [e2] at ez
      cases ez
      exact ⟨S2, d1, d2, d, R2.sub, lO.fetch R2 (l1.keep sm2) e1, l2, e2, fun v r => post.made p3 R2 (.same r)⟩
/-! ### slices -/
theorem clip_eq (n d : Nat) (o : Option Int) : clip n d o = HT.sIx n d o := by cases o <;> rfl
theorem cut_v {K : PySem.W.Frag} {mg : Str → Option Value} {S : Hp} {vs : List V} {ds : List D} (r : RpL K mg S vs ds) (lo hi : Option Int) : RpL K mg S (cutV vs lo hi) (cut ds lo hi) := by
  unfold cutV cut
  rw [clip_eq, clip_eq, r.length]
  exact (r.drop _).take _
def rSlD (K : PySem.W.Frag) (mg : Str → Option Value) : V → Option Int → Option Int → Hp → VK → Prop := fun x lo hi H Q => ∃ S a r, Same S H ∧ Vw K mg S H x a ∧
  Mini.slice a lo hi = some r ∧ ∀ v H', Made K mg S H r v H' → Q v H'
theorem slr : SlR X (rSlD X.K X.mg) := by
  intro pins s σ H x v vl vu lo hi sl Q I rx hs pl pu h
  obtain ⟨S, a, r, sm, hx, e, q⟩ := h
  cases a <;> simp only [Mini.slice, reduceCtorEq] at e
  case tup xs =>
    cases e
    obtain ⟨a, vs, rfl, ha, ha', ra⟩ := hx.tup sm
    refine sl_tupA pins s σ H _ v vl vu lo hi sl Q I rx hs pl pu ⟨a, vs, rfl, ha, fun z => ?_, fun _ p np => q _ _ (.tup np (cut_v ra lo hi))⟩
    have e2 : cut xs lo hi = xs := by
      unfold cut
      rw [clip_eq, clip_eq, ← ra.length, z.1, z.2, List.drop_zero, Nat.sub_zero, ra.length, List.take_length]
    rw [e2] at q
    exact q _ _ (.same (.tup ha' ra))
  case lst xs =>
    cases e
    obtain ⟨a, vs, rfl, ha, ra⟩ := hx.lst sm
    exact sl_list pins s σ H _ v vl vu lo hi sl Q I rx hs pl pu ⟨a, vs, rfl, .inl (.inl ha), fun p np => q _ _ (.lst np (cut_v ra lo hi))⟩
/-- an end of a slice -/
abbrev SdP (X : Cx) (T : List (Addr × Str)) (W : WX) (e : Option Expr) (g : Den (Option Int)) : Prop := PO X e (TR X.K X.mg T W (fun _ _ _ _ _ o o' => o' = o) g)
theorem sdp_none : SdP X T W none (vP (denE F (.lit .non))) :=
  ⟨fun pins s σ H Q I ⟨P, la, S, ρ, R, q⟩ => po_none.run pins s σ H Q I (q none S H R (Same.refl _) rfl)⟩
theorem sdp_some {g : Den RV} (h : SdV X T W e (vV g)) : SdP X T W (some e) (vP g) := by
  refine ⟨fun pins s σ H Q I ⟨P, la, S, ρ, R, q⟩ => ?_⟩
  rw [evalPart_some]
  refine thn (h.run pins s σ H _ I ⟨P, la, S, ρ, R, post.bind (R1 := lD X.K X.mg) q⟩) fun u s1 ⟨x, H1, I1, r1, S1, ρ1, d, R1, sm1, l1, p1⟩ => ?_
  have l1 : Rp X.K X.mg S1 x d := l1
  cases l1 with
  | non =>
    cases r1
    exact ⟨none, H1, I1, .none, p1 none S1 H1 R1 (Same.refl _) rfl⟩
  | int i =>
    obtain ⟨t, rfl⟩ := r1
    exact ⟨some i, H1, I1, .int i t, p1 (some i) S1 H1 R1 (Same.refl _) rfl⟩
  | _ => exact p1.elim
theorem sd_slice {lo hi : Option Expr} (ha : SdO X T W a (vO A (denE F A))) (hb : SdP X T W lo (vP (denE F B))) (hc : SdP X T W hi (vP (denE F C))) : SdE X T W (.Subscript a (.Slice lo hi none p) pos) (denE F (.slice A B C)) := by
  refine ⟨fun pins s σ H Q I h => (pe_slice slr ha hb hc).run pins s σ H Q I ?_⟩
  obtain ⟨P, la, S, ρ, R, q⟩ := h
  rw [denE] at q
  refine ⟨P, la, S, ρ, R, (post.bind (R1 := lO X.K X.mg) q).imp fun x H1 ⟨S1, ρ1, a1, R1, sm1, l1, p1⟩ => ⟨P, la, S1, ρ1, R1, ?_⟩⟩
  refine (post.bind (R1 := fun _ _ _ _ _ o o' => o' = o) p1).imp fun o H2 ⟨S2, ρ2, o2, R2, sm2, l2, p2⟩ => ⟨P, la, S2, ρ2, R2, ?_⟩
  refine (post.bind (R1 := fun _ _ _ _ _ o o' => o' = o) p2).imp fun o' H3 ⟨S3, ρ3, o3, R3, sm3, l3, p3⟩ => ?_
  subst l2 l3
  obtain ⟨z, ez, p4⟩ := post.of p3
  cases e1 : fetch ρ3 a1 with
  | none => rw [e1] at ez; cases ez
  | some d1 =>
    rw [e1] at ez
    exact ⟨S3, d1, z, R3.sub, lO.fetch R3 (l1.keep (sm2.trans sm3)) e1, ez, fun v H' m => post.made p4 R3 m⟩
/-! ### a[::-1] -/
theorem adj_rev (n : Nat) : Builtin.Slice.sliceAdjust none none (-1) (n : Int) = ((n : Int) - 1, -1) := by
  unfold Builtin.Slice.sliceAdjust
  simp
theorem places_rev (n : Nat) : Builtin.Slice.slicePlaces ((n : Int) - 1) (-1) (-1) = n := by
  unfold Builtin.Slice.slicePlaces
  have h1 : ¬ ((-1 : Int) > 0) := by omega
  rw [if_neg h1, show (- -1 : Int) = 1 by decide, Int.ediv_one]
  split <;> omega
theorem fm_congr {α β : Type} {f g : α → Option β} : ∀ {xs : List α}, (∀ x ∈ xs, f x = g x) → xs.filterMap f = xs.filterMap g
  | [], _ => rfl
  | x :: xs, h => by
    rw [List.filterMap_cons, List.filterMap_cons, h x (List.mem_cons_self ..), fm_congr fun y hy => h y (List.mem_cons_of_mem _ hy)]
theorem pick_rev (xs : Array Value) : ((List.range xs.size).filterMap fun (m : Nat) => xs[(((xs.size : Int) - 1) + (m : Int) * (-1)).toNat]?).toArray = xs.toList.reverse.toArray := by
  congr 1
  have e : (List.range xs.size).filterMap (fun (m : Nat) => xs[(((xs.size : Int) - 1) + (m : Int) * (-1)).toNat]?) = ((List.range xs.size).map fun k => xs.size - 1 - k).filterMap (xs[·]?) := by
    rw [List.filterMap_map]
    refine fm_congr fun m hm => ?_
    have h := List.mem_range.mp hm
    have e2 : (((xs.size : Int) - 1) + (m : Int) * (-1)).toNat = xs.size - 1 - m := by omega
    show _ = xs[xs.size - 1 - m]?
    rw [e2]
  rw [e, PySem.W.krv_range, List.filterMap_reverse, PySem.W.krv_all]
section
variable {prog : Program} {w : World} {A : Around} {EE : Value → Shared → Prop} {s : Shared}
theorem sliceApplied_rev {sl : Addr} {t : Tok} {n : Nat} {Q : Int × Int × Nat → Shared → Prop} (hs : s.heap.IsSliceOf sl .none .none (.int (-1) t))
    (h : Q ((n : Int) - 1, -1, n) s) : wpAny (model prog w) A (Builtin.Slice.sliceApplied (.ref sl) (pure (n : Int))) Q EE s := by
  obtain ⟨os, hos, hcs, hds⟩ := id hs
  unfold Builtin.Slice.sliceApplied Builtin.Slice.sliceFields
  refine wpAny_bind (wpAny_bind (wpAny_field hos hds (x := .none) rfl (wpAny_bind (wpAny_field hos hds (x := .none) rfl (wpAny_bind (wpAny_field hos hds (x := .int (-1) t) rfl (wpAny_pure ?_)))))))
  refine wpAny_bind (HT.slicePart_ (.int (-1) t) ?_)
  show wpAny _ _ (if ((-1 : Int) == 0) = true then _ else _) _ _ s
  rw [if_neg (by decide)]
  refine wpAny_bind (HT.slicePart_ .none (wpAny_bind (HT.slicePart_ .none (wpAny_bind (wpAny_pure ?_)))))
  show wpAny _ _ (match Builtin.Slice.sliceAdjust none none (-1) (n : Int) with | (lo, hi) => pure (lo, (-1 : Int), Builtin.Slice.slicePlaces lo hi (-1))) _ _ s
  rw [adj_rev]
  show wpAny _ _ (pure ((n : Int) - 1, (-1 : Int), Builtin.Slice.slicePlaces ((n : Int) - 1) (-1) (-1))) _ _ s
  rw [places_rev]
  exact wpAny_pure h
theorem getItem_tuple_rev {t sl : Addr} {tk : Tok} {items : Array Value} {Q : Value → Shared → Prop} (ht : IsTup s.heap t items) (hs : s.heap.IsSliceOf sl .none .none (.int (-1) tk))
    (h : Q (.ref s.heap.objs.size) { s with heap := s.heap.push { cls := .type "tuple", data := .seq items.toList.reverse.toArray } })
    (hsz : items.size ≤ sizeLine) : wpAny (model prog w) A (getItem (.ref t) (.ref sl)) Q EE s := by
  have htake : sizeOk (.seq items.toList.reverse.toArray) := by
    show items.toList.reverse.toArray.size ≤ sizeLine
    rw [List.size_toArray, List.length_reverse, Array.length_toList]
    exact hsz
  obtain ⟨os, hos, hcs, hds⟩ := id hs
  have hTs : s.TypeIs (.ref sl) "slice" := ⟨os, hos, hcs⟩
  unfold getItem
  try with_reducible refine wpAny_holding ?_
  first | refine wpAny_bind (wpAny_pure ?_) | skip
  refine wpAny_bind (wpAny_sequenceKey ht.typeIs (by decide) ?_)
  refine wpAny_bind (wpAny_callSpecial?_slot (name := Str.ofString "__getitem__") ht.typeIs PyProof.Rows.slot_tuple_getitem
    (wpAny_call_entry PyProof.Rows.slot_tuple_getitem ht.typeIs entry_tuple_getitem ?_ (args_tuple_getitem _ _)))
  show wpAny _ _ (Builtin.Tuple.tupleItemsOf (.ref t) >>= _) _ _ s
  refine wpAny_bind (tupleItemsOf_ ht ?_)
  refine wpAny_bind (wpAny_typeOf hTs ?_)
  rw [if_pos (by decide)]
  refine wpAny_bind (sliceApplied_rev hs ?_)
  have hno : ¬ ((((items.size : Int) - 1 == 0) && (-1 : Int) == 1 && items.size == items.size) = true) := by
    intro q
    rw [Bool.and_eq_true, Bool.and_eq_true] at q
    have q1 : (-1 : Int) = 1 := eq_of_beq q.1.2
    omega
  show wpAny _ _ (if (((items.size : Int) - 1 == 0) && (-1 : Int) == 1 && items.size == items.size) = true then _ else _) _ _ s
  rw [if_neg hno, pick_rev]
  first
    | exact wpAny_bind (m := Builtin.Tuple.tupleExact _) (wpAny_newObj_type (wpAny_pure ⟨_, rfl, wpAny_pure h⟩) htake)
    | exact wpAny_bind (m := Builtin.Tuple.tupleExact _) (wpAny_newObj_type (wpAny_bind (wpAny_pure (wpAny_pure ⟨_, rfl, wpAny_pure h⟩))) htake)
    | exact wpAny_bind (wpAny_bind (m := Builtin.Tuple.tupleExact _) (wpAny_newObj_type (wpAny_pure (wpAny_pure ⟨_, rfl, wpAny_pure h⟩)) htake))
    | exact wpAny_bind (wpAny_bind (m := Builtin.Tuple.tupleExact _) (wpAny_newObj_type (wpAny_pure ⟨_, rfl, wpAny_pure h⟩) htake))
end
/-- a[::-1] by values -/
def tRev (K : PySem.W.Frag) (te : TE) : TE := fun σ H Q => te σ H fun x H1 => (∃ a xs, x = .ref a ∧ SqL K H1 a xs ∧ ∀ p, H1 p = none → Q (.ref p) (upd H1 p (.lst xs.reverse))) ∨
  (∃ a xs, x = .ref a ∧ SqT K H1 a xs ∧ ∀ p, H1 p = none → Q (.ref p) (upd H1 p (.tup xs.reverse)))
theorem pe_rev {te : TE} {k : Nat} {p1 p2 p3 : Pos} (he : PE X e te) : PE X (.Subscript e (.Slice none none (some (.UnaryOp .USub (.Constant (.int 1) k p1) p2)) p3) pos) (tRev X.K te) := by
  refine ⟨fun pins s σ H Q I h => ?_⟩
  refine Subscript_ (thn (he.run pins s σ H _ I h) fun v s1 ⟨x, H1, I1, r1, q1⟩ => ?_)
  have hst : PO X (some (.UnaryOp .USub (.Constant (.int 1) k p1) p2)) (tPart (tUn (rU fun i => .int (-i)) (tC (.int 1)))) := po_some (pe_un un_neg pe_int)
  refine wpAny_Slice (thn (po_none.run pins s1 σ H1 (fun o H2 => o = none ∧ H2 = H1) I1 ⟨rfl, rfl⟩) fun vl s2 ⟨l, H2, I2, pl, el, e2⟩ => ?_)
  subst el e2
  refine thn (po_none.run pins s2 σ H2 (fun o H3 => o = none ∧ H3 = H2) I2 ⟨rfl, rfl⟩) fun vu s3 ⟨u, H3, I3, pu, eu, e3⟩ => ?_
  subst eu e3
  refine thn (hst.run pins s3 σ H3 (fun o H4 => o = some (-1) ∧ H4 = H3) I3 ⟨1, rfl, -1, rfl, rfl, rfl⟩) fun vs s4 ⟨o, H4, I4, ps, eo, e4⟩ => ?_
  subst eo e4
  have I5 : Inv X pins σ H4 { s4 with heap := s4.heap.push { cls := .type "slice", data := .fields #[vl, vu, vs] } } := I4.kept (t' := s4.toks) fun b ob q => Heap.get?_push_of_some _ q
  rcases q1 with ⟨a, xs, ex, hx, q⟩ | ⟨a, xs, ex, hx, q⟩
  · subst ex
    cases r1
    obtain ⟨its, r, ht, hz⟩ := I5.list hx
    have hlen := r.length
    show wpAny (model X.prog X.w) X.A (subscriptTail e (.Slice none none (some (.UnaryOp .USub (.Constant (.int 1) k p1) p2)) p3) (.ref a) (.ref s4.heap.objs.size)) (EP X pins σ Q) X.xe { s4 with heap := s4.heap.push { cls := .type "slice", data := .fields #[vl, vu, vs] } }
    refine tail_any (ops := [.ref a, .ref s4.heap.objs.size]) ht.isList.typeIs (PySem.slot_list_getitem.lookup) ?_ (by with_unfolding_all rfl)
    refine wpAny_getItem_list_slice ht.isList (Heap.IsSliceOf.new _ vl vu vs) pl pu ps (by decide) ?_ (by rw [List.size_toArray]; omega)
    rw [PySem.W.krv_pick]
    refine ⟨.ref _, _, I5.laid (t' := s4.toks) (o := .lst xs.reverse) (fun b ob q => Heap.get?_push_of_some _ q) (Nat.le_refl _) ?_, rfl, q _ (I5.hok.fresh (Nat.le_refl _))⟩
    exact ⟨by rw [List.length_reverse]; exact hz, _, 0, r.reverse, Heap.get?_push_size _ rfl⟩
  · subst ex
    cases r1
    obtain ⟨its, r, ht, hz⟩ := I5.tuple hx
    have hlen := r.length
    cases pl
    cases pu
    cases ps
    show wpAny (model X.prog X.w) X.A (subscriptTail e (.Slice none none (some (.UnaryOp .USub (.Constant (.int 1) k p1) p2)) p3) (.ref a) (.ref s4.heap.objs.size)) (EP X pins σ Q) X.xe _
    refine tail_any (ops := [.ref a, .ref s4.heap.objs.size]) ht.typeIs PyProof.Rows.slot_tuple_getitem.lookup ?_ (by with_unfolding_all rfl)
    refine getItem_tuple_rev ht (Heap.IsSliceOf.new ..) ?_ (by rw [List.size_toArray]; omega)
    refine ⟨.ref _, _, I5.laid (t' := s4.toks) (o := .tup xs.reverse) (fun b ob q => Heap.get?_push_of_some _ q) (Nat.le_refl _) ?_, rfl, q _ (I5.hok.fresh (Nat.le_refl _))⟩
    exact ⟨by rw [List.length_reverse]; exact hz, _, r.reverse, IsTup.new _ _⟩
theorem sd_rev {k : Nat} {p1 p2 p3 : Pos} (ha : SdO X T W a (vO A (denE F A))) : SdE X T W (.Subscript a (.Slice none none (some (.UnaryOp .USub (.Constant (.int 1) k p1) p2)) p3) pos) (denE F (.rev A)) := by
  refine (pe_rev ha).imp fun σ H Q ⟨P, la, S, ρ, R, q⟩ => ⟨P, la, S, ρ, R, ?_⟩
  rw [denE] at q
  refine (post.bind (R1 := lO X.K X.mg) q).imp fun x H1 ⟨S1, ρ1, a1, R1, sm1, l1, p1⟩ => ?_
  obtain ⟨z, ez, p3⟩ := post.of p1
  cases e1 : fetch ρ1 a1 with
  | none => rw [e1] at ez; cases ez
  | some d1 =>
    rw [e1] at ez
    have w := lO.fetch R1 l1 e1
    cases d1 with
    | tup xs =>
      cases ez
      obtain ⟨a, vs, rfl, ha, ha', ra⟩ := w.tup R1.sub
      exact .inr ⟨a, vs, rfl, ha, fun p np => post.made p3 R1 (.tup np ra.rev)⟩
    | lst xs =>
      cases ez
      obtain ⟨a, vs, rfl, ha, ra⟩ := w.lst R1.sub
      exact .inl ⟨a, vs, rfl, .inl (.inl ha), fun p np => post.made p3 R1 (.lst np ra.rev)⟩
    | _ => cases ez
end
end Mini

/- M3f -/
set_option Elab.async false
set_option linter.all false
set_option maxRecDepth 100000
set_option maxHeartbeats 1000000
/-! MINI 3f: built-ins. -/
namespace Mini
open PySem PySem.Spec PyProof.Rows L2 LamX
inductive VwL (K : PySem.W.Frag) (mg : Str → Option Value) (S H : Hp) : List V → List D → Prop
  | nil : VwL K mg S H [] []
  | cons {v : V} {vs : List V} {d : D} {ds : List D} : Vw K mg S H v d → VwL K mg S H vs ds → VwL K mg S H (v :: vs) (d :: ds)
def lOs (K : PySem.W.Frag) (mg : Str → Option Value) : Lies (List Opd) (List V) := fun P S H σ ρ os vs => Paired (lO K mg P S H σ ρ) os vs
section
variable {K : PySem.W.Frag} {mg : Str → Option Value} {T : List (Addr × Str)} {P S S' H : Hp} {la : Lk} {σ : L2.St} {ρ : Env}
theorem lOs.fetch (R : Rel K mg T P la S H σ ρ) : ∀ {os : List Opd} {vs : List V} {ds : List D}, lOs K mg P S H σ ρ os vs → fetchAll ρ os = some ds → VwL K mg S H vs ds
  | [], _, ds, h, e => by
    cases h
    cases e
    exact .nil
  | o :: os, _, ds, h, e => by
    cases h with
    | cons h1 h2 =>
      unfold fetchAll at e
      cases e1 : Mini.fetch ρ o with
      | none => rw [e1] at e; cases e
      | some d =>
        rw [e1] at e
        dsimp only [Option.bind_some] at e
        cases e2 : fetchAll ρ os with
        | none => rw [e2] at e; cases e
        | some ds' =>
          rw [e2] at e
          cases e
          exact .cons (lO.fetch R h1 e1) (lOs.fetch R h2 e2)
end
def rBi (K : PySem.W.Frag) (mg : Str → Option Value) (f : List D → Option RV) : List V → Hp → VK → Prop := fun vs H Q => ∃ S ds r, Same S H ∧ VwL K mg S H vs ds ∧ f ds = some r ∧ ∀ v H', Made K mg S H r v H' → Q v H'
abbrev SdOs (X : Cx) (T : List (Addr × Str)) (W : WX) (es : List Expr) (g : Den (List Opd)) : Prop := PA X es (TR X.K X.mg T W (lOs X.K X.mg) g)
section
variable {X : Cx} {T : List (Addr × Str)} {W : WX} {F : Ifc} {pos p : Pos} {a b c e : Expr} {A B C : E} {es : List Expr} {Es : List E}
theorem sdos_nil : SdOs X T W [] (vOs [] []) := pa_nil.imp fun σ H Q ⟨P, la, S, ρ, R, q⟩ => q [] S H R (Same.refl _) .nil
theorem sdos_cons (ha : SdO X T W a (vO A (denE F A))) (hs : SdOs X T W es (vOs Es (denL F Es))) (he : starEach (a :: es) X.env = (false, eval a X.env) :: starEach es X.env) : SdOs X T W (a :: es) (vOs (A :: Es) (denL F (A :: Es))) := by
  refine (pa_cons ha hs he).imp fun σ H Q ⟨P, la, S, ρ, R, q⟩ => ⟨P, la, S, ρ, R, ?_⟩
  rw [denL, vOs] at q
  refine (post.bind (R1 := lO X.K X.mg) q).imp fun x H1 ⟨S1, ρ1, a1, R1, sm1, l1, p1⟩ => ⟨P, la, S1, ρ1, R1, ?_⟩
  refine (post.bind (R1 := lOs X.K X.mg) p1).imp fun y H2 ⟨S2, ρ2, a2, R2, sm2, l2, p2⟩ => ?_
  exact p2 _ S2 H2 R2 (Same.refl _) (.cons (l1.keep sm2) l2)
theorem bi_go {bi : BI} {σ : L2.St} {H : Hp} {Q : VK} (h : TR X.K X.mg T W (lRV X.K X.mg) (denE F (.bi bi Es)) σ H Q) :
    tCB (rBi X.K X.mg (Mini.bi F bi)) (TR X.K X.mg T W (lOs X.K X.mg) (vOs Es (denL F Es))) σ H Q := by
  obtain ⟨P, la, S, ρ, R, q⟩ := h
  rw [denE] at q
  refine ⟨P, la, S, ρ, R, (post.bind (R1 := lOs X.K X.mg) q).imp fun vs H1 ⟨S1, ρ1, os, R1, sm1, l1, p1⟩ => ?_⟩
  obtain ⟨z, ez, p3⟩ := post.of p1
  cases e1 : fetchAll ρ1 os with
  | none => rw [e1] at ez; cases ez
  | some ds =>
    rw [e1] at ez
    exact ⟨S1, ds, z, R1.sub, lOs.fetch R1 l1 e1, ez, fun v H' m => post.made p3 R1 m⟩
theorem sd_biB {x : Str} {id : String} {bi : BI} (hc : CallR X (.builtin id) (rBi X.K X.mg (Mini.bi F bi))) (hg : Gl X x) (hm : X.mg x = none) (hv : bootBuiltins x = some (.builtin id)) (ha : SdOs X T W (a :: es) (vOs Es (denL F Es)))
    (hn : x ≠ "__name__") (hdb : (x == ("__debug__" : Str)) = false) (he : starEach (a :: es) X.env = (false, eval a X.env) :: starEach es X.env) (hpl : (backTo pos (starEach es X.env)).any (·.1) = false) : SdE X T W (.Call (.Name x p) (a :: es) [] pos) (denE F (.bi bi Es)) :=
  (pe_callB hc hg hm hv ha hn hdb he hpl).imp fun _ _ _ h => bi_go h
theorem sd_biT {x : Str} {id : String} {bi : BI} (hc : CallR X (.type id) (rBi X.K X.mg (Mini.bi F bi))) (hg : Gl X x) (hm : X.mg x = none) (hv : bootBuiltins x = some (.type id)) (ha : SdOs X T W (a :: es) (vOs Es (denL F Es)))
    (hn : x ≠ "__name__") (hdb : (x == ("__debug__" : Str)) = false) (he : starEach (a :: es) X.env = (false, eval a X.env) :: starEach es X.env) (hpl : (backTo pos (starEach es X.env)).any (·.1) = false) : SdE X T W (.Call (.Name x p) (a :: es) [] pos) (denE F (.bi bi Es)) :=
  (pe_callTy hc hg hm hv ha hn hdb he hpl).imp fun _ _ _ h => bi_go h
end
section
variable {X : Cx} {F : Ifc}
theorem vwL1 {K : PySem.W.Frag} {mg : Str → Option Value} {S H : Hp} {vs : List V} {d : D} (h : VwL K mg S H vs [d]) : ∃ v, vs = [v] ∧ Vw K mg S H v d := by
  cases h with
  | cons h1 h2 => cases h2; exact ⟨_, rfl, h1⟩
theorem vwL2 {K : PySem.W.Frag} {mg : Str → Option Value} {S H : Hp} {vs : List V} {d d' : D} (h : VwL K mg S H vs [d, d']) : ∃ v v', vs = [v, v'] ∧ Vw K mg S H v d ∧ Vw K mg S H v' d' := by
  cases h with
  | cons h1 h2 =>
    obtain ⟨v', rfl, h3⟩ := vwL1 h2
    exact ⟨_, _, rfl, h1, h3⟩
theorem bi1 {b : BI} {ds : List D} {r : RV} (h : Mini.bi F b ds = some r) (hb : b = .len ∨ b = .int ∨ b = .tuple ∨ b = .list ∨ b = .sorted ∨ b = .all ∨ b = .abs ∨ b = .repr ∨ ∃ t, b = .isi t) : ∃ d, ds = [d] := by
  rcases hb with rfl | rfl | rfl | rfl | rfl | rfl | rfl | rfl | ⟨t, rfl⟩ <;> (match ds, h with
  | [], h => (simp [Mini.bi] at h)
  | [d], _ => exact ⟨d, rfl⟩
  | _ :: _ :: _, h => (simp [Mini.bi] at h))
theorem bir_len : CallR X (.builtin "len") (rBi X.K X.mg (bi F .len)) := by
  intro pins s σ H xs us Q I r h
  obtain ⟨S, ds, r', sm, hv, e, q⟩ := h
  obtain ⟨d, rfl⟩ := bi1 e (.inl rfl)
  obtain ⟨v, rfl, w⟩ := vwL1 hv
  have fin : ∀ n : Nat, r' = .val (.int n) → LenV X.K v H n → wpAny (model X.prog X.w) X.A (call (.builtin "len") us) (EP X pins σ Q) X.xe s := fun n e2 hl => by
    subst e2
    exact call_len pins s σ H _ us Q I r ⟨v, n, rfl, hl, q _ _ (.same (.int _))⟩
  cases d with
  | tup ys =>
    obtain ⟨a, vs, rfl, ha, _, ra⟩ := w.tup sm
    exact fin ys.length (Option.some.inj e).symm (.inr ⟨vs, ha, ra.length.symm⟩)
  | lst ys =>
    obtain ⟨a, vs, rfl, ha, ra⟩ := w.lst sm
    exact fin ys.length (Option.some.inj e).symm (.inl ⟨vs, .inl (.inl ha), ra.length.symm⟩)
  | scr ns =>
    obtain ⟨a, rfl, ha⟩ := w.scr sm
    exact fin ns.length (Option.some.inj e).symm (.inl ⟨_, ha, (List.length_map ..).symm⟩)
  | dic ks ws =>
    obtain ⟨a, kvs, rfl, ha, rfl, ra⟩ := w.dic sm
    cases e
    rw [List.length_map] at q
    rw [Vals.ref1 r]
    exact d_len I (.inl ha) fun t s' I' => ⟨.int kvs.length, H, I', ⟨t, rfl⟩, q _ _ (.same (.int _))⟩
  | _ => cases e
theorem bir_int : CallR X (.type "int") (rBi X.K X.mg (bi F .int)) := by
  intro pins s σ H xs us Q I r h
  obtain ⟨S, ds, r', sm, hv, e, q⟩ := h
  obtain ⟨d, rfl⟩ := bi1 e (by simp)
  obtain ⟨v, rfl, w⟩ := vwL1 hv
  cases d <;> simp only [bi, reduceCtorEq, Option.some.injEq] at e
  · subst e
    have := w.bl
    subst this
    exact call_int1 pins s σ H _ us Q I r (.inr ⟨_, rfl, q _ _ (.same (.int _))⟩)
  · subst e
    have := w.int
    subst this
    exact call_int1 pins s σ H _ us Q I r (.inl ⟨_, rfl, q _ _ (.same (.int _))⟩)
theorem bir_abs : CallR X (.builtin "abs") (rBi X.K X.mg (bi F .abs)) := by
  intro pins s σ H xs us Q I r h
  obtain ⟨S, ds, r', sm, hv, e, q⟩ := h
  obtain ⟨d, rfl⟩ := bi1 e (by simp)
  obtain ⟨v, rfl, w⟩ := vwL1 hv
  cases d <;> simp only [bi, reduceCtorEq, Option.some.injEq] at e
  subst e
  have := w.int
  subst this
  exact call_abs pins s σ H _ us Q I r ⟨_, rfl, q _ _ (.same (.int _))⟩
theorem bir_repr : CallR X (.builtin "repr") (rBi X.K X.mg (bi F .repr)) := by
  intro pins s σ H xs us Q I r h
  obtain ⟨S, ds, r', sm, hv, e, q⟩ := h
  obtain ⟨d, rfl⟩ := bi1 e (by simp)
  obtain ⟨v, rfl, w⟩ := vwL1 hv
  obtain ⟨u, rfl, ru⟩ := vals1 r
  cases d <;> simp only [bi, reduceCtorEq, Option.some.injEq] at e
  · subst e
    have := w.non
    subst this
    cases ru
    exact PySem.P.repr_of_none ⟨.str _, H, I.tok _, ⟨_, rfl⟩, q _ _ (.same (.str _))⟩
  · subst e
    have := w.bl
    subst this
    cases ru
    exact PySem.P.repr_of_bool ⟨.str _, H, I.tok _, ⟨_, by split <;> rfl⟩, q _ _ (.same (.str _))⟩
theorem bir_tuple : CallR X (.type "tuple") (rBi X.K X.mg (bi F .tuple)) := by
  intro pins s σ H xs us Q I r h
  obtain ⟨S, ds, r', sm, hv, e, q⟩ := h
  obtain ⟨d, rfl⟩ := bi1 e (by simp)
  obtain ⟨v, rfl, w⟩ := vwL1 hv
  cases d <;> simp only [bi, reduceCtorEq, Option.some.injEq] at e
  · subst e
    obtain ⟨a, vs, rfl, ha, ha', ra⟩ := w.tup sm
    exact call_tuple_of pins s σ H _ us Q I r ⟨a, vs, rfl, .inr ⟨ha, q _ _ (.same (.tup ha' ra))⟩⟩
  · subst e
    obtain ⟨a, vs, rfl, ha, ra⟩ := w.lst sm
    exact call_tuple_of pins s σ H _ us Q I r ⟨a, vs, rfl, .inl ⟨.inl (.inl ha), fun l hl => q _ _ (.tup hl ra)⟩⟩
theorem bir_list : CallR X (.type "list") (rBi X.K X.mg (bi F .list)) := by
  intro pins s σ H xs us Q I r h
  obtain ⟨S, ds, r', sm, hv, e, q⟩ := h
  obtain ⟨d, rfl⟩ := bi1 e (by simp)
  obtain ⟨v, rfl, w⟩ := vwL1 hv
  cases d <;> simp only [bi, reduceCtorEq, Option.some.injEq] at e
  · subst e
    obtain ⟨a, vs, rfl, ha, ha', ra⟩ := w.tup sm
    exact call_list_of pins s σ H _ us Q I r ⟨a, vs, rfl, .inr ha, fun l hl => q _ _ (.lst hl ra)⟩
  · subst e
    obtain ⟨a, vs, rfl, ha, ra⟩ := w.lst sm
    exact call_list_of pins s σ H _ us Q I r ⟨a, vs, rfl, .inl (.inl (.inl ha)), fun l hl => q _ _ (.lst hl ra)⟩
theorem bls_of {K : PySem.W.Frag} {mg : Str → Option Value} {S : Hp} : ∀ {vs : List V} {ds : List D} {b : Bool}, RpL K mg S vs ds → allB ds = some b → ∃ bs : List Bool, vs = bs.map V.bl ∧ b = bs.all id
  | _, [], b, r, e => by
    cases r
    cases e
    exact ⟨[], rfl, rfl⟩
  | _, d :: ds, b, r, e => by
    cases r with
    | cons h r =>
      cases d <;> simp only [allB, reduceCtorEq] at e
      rename_i x
      cases e2 : allB ds with
      | none => rw [e2] at e; cases e
      | some y =>
        rw [e2] at e
        cases e
        cases h
        obtain ⟨bs, rfl, rfl⟩ := bls_of r e2
        exact ⟨x :: bs, rfl, rfl⟩
theorem bir_all (hc : X.calm = true) : CallR X (.builtin "all") (rBi X.K X.mg (bi F .all)) := by
  intro pins s σ H xs us Q I r h
  obtain ⟨S, ds, r', sm, hv, e, q⟩ := h
  obtain ⟨d, rfl⟩ := bi1 e (by simp)
  obtain ⟨v, rfl, w⟩ := vwL1 hv
  cases d <;> simp only [bi, reduceCtorEq] at e
  rename_i ys
  cases e2 : allB ys with
  | none => rw [e2] at e; cases e
  | some b =>
    rw [e2] at e
    cases e
    obtain ⟨a, vs, rfl, ha, ra⟩ := w.lst sm
    obtain ⟨bs, rfl, rfl⟩ := bls_of ra e2
    exact cr_all hc pins s σ H _ us Q I r ⟨a, bs, rfl, .inl (.inl ha), q _ _ (.same (.bl _))⟩
theorem sums_of {K : PySem.W.Frag} {mg : Str → Option Value} {S : Hp} : ∀ {vs : List V} {ds : List D} {b : Int}, RpL K mg S vs ds → sumI ds = some b → ∃ bs : List Int, vs = bs.map V.int ∧ b = bs.sum
  | _, [], b, r, e => by
    cases r
    cases e
    exact ⟨[], rfl, rfl⟩
  | _, d :: ds, b, r, e => by
    cases r with
    | cons h r =>
      cases d <;> simp only [sumI, reduceCtorEq] at e
      rename_i x
      cases e2 : sumI ds with
      | none => rw [e2] at e; cases e
      | some y =>
        rw [e2] at e
        cases e
        cases h
        obtain ⟨bs, rfl, rfl⟩ := sums_of r e2
        exact ⟨x :: bs, rfl, rfl⟩
theorem isTuple_of {h : Heap} {t : Addr} {its : Array Value} (p : IsTup h t its) : h.IsTuple t its := p
theorem cr_sumT (hc : X.calm = true) {pins : List (Addr × Obj)} {s : Shared} {σ : L2.St} {H : Hp} {us : List Value} {Q : VK} {a : Addr} {ns : List Int} (I : Inv X pins σ H s) (r : Vals [V.ref a] us) (h : SqT X.K H a (ns.map V.int)) (q : Q (.int ns.sum) H) :
    wpAny (model X.prog X.w) X.A (call (.builtin "sum") us) (EP X pins σ Q) X.xe s := by
  obtain ⟨its, rv, hl, _⟩ := I.tuple h
  rw [Vals.ref1 r]
  obtain ⟨xs, hx⟩ := rv.ints.allInts.items
  have hn : numsOf its.toArray.toList = ns := by rw [show its.toArray.toList = its from rfl, rv.ints.numsOf]
  rw [hx] at hl hn
  rw [nums_intItems] at hn
  refine PySem.W.ktm_sumG (I.ok.hd hc) (isTuple_of hl) fun h' tk t' hk => ?_
  rw [preSum_eq, List.take_of_length_le (by simp), hn]
  exact ⟨.int _, H, I.kept hk, ⟨_, rfl⟩, q⟩
theorem bi2 {b : BI} {ds : List D} {r : RV} (h : Mini.bi F b ds = some r) (hb : b = .min ∨ b = .max) : ∃ d d', ds = [d, d'] := by
  rcases hb with rfl | rfl <;> (match ds, h with
  | [], h => (simp [Mini.bi] at h)
  | [d], h => (simp [Mini.bi] at h)
  | [d, d'], _ => exact ⟨d, d', rfl⟩
  | _ :: _ :: _ :: _, h => (simp [Mini.bi] at h))
theorem bir_min (hc : X.calm = true) : CallR X (.builtin "min") (rBi X.K X.mg (bi F .min)) := by
  intro pins s σ H xs us Q I r h
  obtain ⟨S, ds, r', sm, hv, e, q⟩ := h
  obtain ⟨d, d', rfl⟩ := bi2 e (.inl rfl)
  obtain ⟨v, v', rfl, w, w'⟩ := vwL2 hv
  cases d <;> cases d' <;> simp only [bi, reduceCtorEq, Option.some.injEq] at e
  subst e
  have e1 := w.int
  have e2 := w'.int
  subst e1 e2
  exact call_min2 hc pins s σ H _ us Q I r ⟨_, _, rfl, q _ _ (.same (.int _))⟩
theorem bir_max (hc : X.calm = true) : CallR X (.builtin "max") (rBi X.K X.mg (bi F .max)) := by
  intro pins s σ H xs us Q I r h
  obtain ⟨S, ds, r', sm, hv, e, q⟩ := h
  obtain ⟨d, d', rfl⟩ := bi2 e (.inr rfl)
  obtain ⟨v, v', rfl, w, w'⟩ := vwL2 hv
  cases d <;> cases d' <;> simp only [bi, reduceCtorEq, Option.some.injEq] at e
  subst e
  have e1 := w.int
  have e2 := w'.int
  subst e1 e2
  exact call_max2 hc pins s σ H _ us Q I r ⟨_, _, rfl, q _ _ (.same (.int _))⟩
/-- sum(xs) alone -/
def sum1 : List D → Option RV
  | [d] => Mini.bi F .sum [d]
  | _ => none
theorem bir_sum1 (hc : X.calm = true) : CallR X (.builtin "sum") (rBi X.K X.mg (fun ds => match ds with | [d] => bi F .sum [d] | _ => none)) := by
  intro pins s σ H xs us Q I r h
  obtain ⟨S, ds, r', sm, hv, e, q⟩ := h
  match ds, hv, e with
  | [], _, e => cases e
  | _ :: _ :: _, _, e => cases e
  | [d], hv, e =>
    obtain ⟨v, rfl, w⟩ := vwL1 hv
    dsimp only at e
    cases d <;> simp only [bi, reduceCtorEq] at e
    · rename_i ys
      cases e2 : sumI ys with
      | none => rw [e2] at e; cases e
      | some b =>
        rw [e2] at e
        cases e
        obtain ⟨a, vs, rfl, ha, _, ra⟩ := w.tup sm
        obtain ⟨bs, rfl, rfl⟩ := sums_of ra e2
        exact cr_sumT hc I r ha (q _ _ (.same (.int _)))
    · rename_i ys
      cases e2 : sumI ys with
      | none => rw [e2] at e; cases e
      | some b =>
        rw [e2] at e
        cases e
        obtain ⟨a, vs, rfl, ha, ra⟩ := w.lst sm
        obtain ⟨bs, rfl, rfl⟩ := sums_of ra e2
        exact cr_sum hc pins s σ H _ us Q I r ⟨a, bs, rfl, .inl (.inl ha), q _ _ (.same (.int _))⟩
/-! ### sorted -/
open PySem.W in
theorem sorts_one {prog : Program} {w : World} {A : Around} {s : Shared} {v : Value} {d : PyData} {as : List Addr} (r : Reads s.heap v d as) (hn : d ≠ .none) (ha : alike d d = true) (hu : A.units + d.depth < cLine) : SortsAt prog w A s (dataKind s.heap [d]) [v] := by
  have hal : AllAlike [d] := fun x hx y hy => by
    rw [List.mem_singleton.mp hx, List.mem_singleton.mp hy]
    exact ha
  refine ⟨fun u hu => ?_, general', fun E x y a b Q h1 h2 hq => ?_, fun h2 => absurd h2 (by simp)⟩
  · rw [List.mem_singleton.mp hu]
    exact ⟨_, dataKind_some hal (List.mem_singleton.mpr rfl) r⟩
  · obtain ⟨d1, as1, hd1, r1, rfl⟩ := dataKind_inv h1
    obtain ⟨d2, as2, hd2, r2, rfl⟩ := dataKind_inv h2
    have e1 := List.mem_singleton.mp hd1
    have e2 := List.mem_singleton.mp hd2
    subst e1 e2
    show wpAny _ _ (oneLt' false x y) _ _ _
    exact oneLt_alike (fun z => Bool.noConfusion z) r1 r2 ha hn (by rw [Nat.min_self]; exact hu) hq
/-- what a value stands for -/
def RD (K : PySem.W.Frag) (mg : Str → Option Value) (S : Hp) : Value → D → Prop := fun u d => ∃ v, RelV v u ∧ Rp K mg S v d
open PySem.W in
theorem each_of {K : PySem.W.Frag} {mg : Str → Option Value} {S : Hp} : ∀ {vs : List V} {us : List Value} {ds : List D}, RpL K mg S vs ds → Vals vs us → EachIs (RD K mg S) us ds
  | _, _, _, .nil, .nil => .nil
  | _, _, _, .cons h r, .cons q t => .cons ⟨_, q, h⟩ (each_of r t)
open PySem.W in
theorem of_each {K : PySem.W.Frag} {mg : Str → Option Value} {S : Hp} : ∀ {us : List Value} {ds : List D}, EachIs (RD K mg S) us ds → ∃ vs, RpL K mg S vs ds ∧ Vals vs us
  | _, _, .nil => ⟨[], .nil, .nil⟩
  | _, _, .cons ⟨v, q, h⟩ t => by
    obtain ⟨vs, r, w⟩ := of_each t
    exact ⟨v :: vs, .cons h r, .cons q w⟩
theorem rpL_mono {K : PySem.W.Frag} {mg : Str → Option Value} {S S' : Hp} {vs : List V} {ds : List D} (e : Same S S') (r : RpL K mg S vs ds) : RpL K mg S' vs ds := r.mono e
open PySem.W in
theorem bir_sorted {k : Nat} (hr : Room k X.A) (hk : X.A.units + 70 < cLine) : CallR X (.builtin "sorted") (rBi X.K X.mg (bi F .sorted)) := by
  intro pins s σ H xs us Q I r h
  obtain ⟨S, ds, r', sm, hv, e, q⟩ := h
  obtain ⟨d, rfl⟩ := bi1 e (by simp)
  obtain ⟨v, rfl, w⟩ := vwL1 hv
  cases d <;> simp only [bi, reduceCtorEq] at e
  rename_i ys
  split at e <;> cases e
  rename_i hs
  obtain ⟨a, vs, rfl, ha, ra⟩ := w.lst sm
  obtain ⟨its, rv, pl, hz⟩ := I.list (xs := vs) (.inl (.inl ha))
  rw [Vals.ref1 r]
  unfold sortOk at hs
  simp only [Bool.and_eq_true, Bool.or_eq_true, List.all_eq_true, decide_eq_true_eq] at hs
  obtain ⟨⟨⟨hp, hal⟩, hso⟩, hL⟩ := hs
  have er0 : EachIs (RD X.K X.mg S) its ys := each_of ra rv
  have er : EachIs (fun u b => ∃ as, Reads s.heap u (D.py b) as) its ys := (each_mem er0).mono fun u b ⟨⟨v, h1, h2⟩, hb⟩ => Dp.reads I _ v u ((h2.mono sm).dp (hp b hb).1) h1
  have hAl : AllAlike (ys.map D.py) := fun x hx y hy => by
    obtain ⟨b, hb, rfl⟩ := List.mem_map.mp hx
    obtain ⟨b', hb', rfl⟩ := List.mem_map.mp hy
    exact hal b hb b' hb'
  have hu : ∀ b, b ∈ ys → X.A.units + 2 + (D.py b).depth < cLine := fun b hb => by
    have := (hp b hb).2
    omega
  have fin : ∀ out : List Value, out.length = ys.length → EachIs (RD X.K X.mg S) out (ys.mergeSort (dataLe false D.py)) → EP X pins σ Q (.ref (s.heap.objs.size + 1)) { s with heap := PyProof.Rows.sortedAll s.heap its (List.toArray out) } := fun out hl eo => by
    obtain ⟨ws, r1, r2⟩ := of_each eo
    obtain ⟨c, hc⟩ := PyProof.Rows.sortedAll_at s.heap its out.toArray
    have hln : ws.length = ys.length := by rw [← hl]; exact r2.length
    refine ⟨.ref _, _, I.laid (t' := s.toks) (o := .lst ws) (fun b o q => PyProof.Rows.sortedAll_old q) (Nat.le_succ _) ?_, rfl, q _ _ (.lst (I.hok.fresh (Nat.le_succ _)) (show RpL X.K X.mg S ws (sortD ys) from r1))⟩
    exact ⟨by rw [hln, line_eq]; exact hL, out, c, r2, hc⟩
  rcases hso with (⟨h1, h2⟩ | h1) | h1
  · have one : ys = [] ∨ ∃ y, ys = [y] := by
      cases ys with
      | nil => exact .inl rfl
      | cons y r =>
        cases r with
        | nil => exact .inr ⟨y, rfl⟩
        | cons z r => exact absurd h1 (by simp)
    rcases one with rfl | ⟨y, rfl⟩
    · exact sorted_data pl.isList er0 er hAl (.inl fun d hd => absurd hd (by simp)) (by rw [line_eq]; exact hL) hu fin
    · have hne : D.py y ≠ .none := by
        have := h2 y (List.mem_singleton.mpr rfl)
        have hpl := (hp y (List.mem_singleton.mpr rfl)).1
        cases y <;> first | cases this; done | cases hpl; done | (intro z; rw [D.py] at z; cases z)
      have er0' := er0
      cases er0' with
      | cons hA hB =>
        cases hB
        rename_i u
        obtain ⟨as, hre⟩ : ∃ as, Reads s.heap u (D.py y) as := by
          cases er with
          | cons h _ => exact h
        have hre' : Reads (sortingHeap (PySem.W.copyHeap s.heap [u]) (s.heap.objs.size + 1) [u]) u (D.py y) as := PyProof.Rows.Reads.keeps (fun _ _ => PySem.W.sorting_copy_old) hre
        have hyy := hal y (List.mem_singleton.mpr rfl) y (List.mem_singleton.mpr rfl)
        refine PySem.W.sorted_vals pl.isList (sorts_one (s := { s with heap := sortingHeap (PySem.W.copyHeap s.heap [u]) (s.heap.objs.size + 1) [u] }) hre' hne hyy ?_) (by rw [line_eq]; exact hL) ?_
        · have := hu y (List.mem_singleton.mpr rfl)
          exact this
        · exact fin _ (by rw [PySem.W.sortVals_length false rfl]; rfl) (PySem.W.sortVals_data (h' := sortingHeap (PySem.W.copyHeap s.heap [u]) (s.heap.objs.size + 1) [u]) (bs := [y]) false er0 (.cons ⟨as, hre'⟩ .nil) hAl)
  · refine sorted_data pl.isList er0 er hAl (.inl fun d hd => ?_) (by rw [line_eq]; exact hL) hu fin
    obtain ⟨b, hb, rfl⟩ := List.mem_map.mp hd
    have := h1 b hb
    cases b with
    | tup zs => cases zs with
      | nil => cases this
      | cons z zs => exact ⟨_, _, by rw [D.py, D.pyL]⟩
    | _ => cases this
  · refine sorted_data pl.isList er0 er hAl (.inr fun d hd => ?_) (by rw [line_eq]; exact hL) hu fin
    obtain ⟨b, hb, rfl⟩ := List.mem_map.mp hd
    have h2 := h1 b hb
    have hpl := (hp b hb).1
    cases b <;> first | cases h2; done | cases hpl; done | (constructor <;> intro z <;> (try intro z2) <;> (try rw [D.py] at z) <;> (try rw [D.py] at z2) <;> first | cases z; done | cases z2)
/-! ### isinstance -/
/-- what is known of a class of the module -/
structure IsF (K : PySem.W.Frag) (mg : Str → Option Value) (F : Ifc) (x : Str) (C : Addr) : Prop where
  c : mg x = some (.ref C)
  bt : ∀ n, n ∈ ["NoneType", "bool", "int", "str", "tuple", "list", "dict"] → PySem.W.kitOne K (.type n) (.ref C) = some false
  ex : ∀ c D, mg c = some (.ref D) → F.sub c c = true → ExcC K D ∧ PySem.W.kitOne K (.ref D) (.ref C) = some (F.sub c x)
def Ty.nm : Ty → String
  | .int => "int" | .bool => "bool" | .str => "str" | .tup => "tuple" | .lst => "list" | .dic => "dict" | .cls _ => ""
def D.ty : D → String
  | .non => "NoneType" | .bl _ => "bool" | .int _ => "int" | .str _ => "str" | .tup _ => "tuple" | .lst _ => "list" | .dic _ _ => "dict" | _ => ""
theorem sqT_ty {K : PySem.W.Frag} {H : Hp} {a : Addr} {vs : List V} (h : SqT K H a vs) : TyX K H (.ref a) (.type "tuple") := by
  rcases h with (h | ⟨o, h⟩) | ⟨o, its, n, h, hc, _⟩
  · exact .base (.tup h)
  · exact .fTuple h
  · exact .kTuple h hc
theorem vw_ty {K : PySem.W.Frag} {mg : Str → Option Value} {S H : Hp} {v : V} {d : D} (sm : Same S H) (h : Vw K mg S H v d) (hb : d.base = true) : TyX K H v (.type d.ty) := by
  cases d with
  | non => rw [h.non]; exact .base .non
  | bl b => rw [h.bl]; exact .base (.bl b)
  | int i => rw [h.int]; exact .base (.int i)
  | str x => rw [h.str]; exact .base (.str x)
  | tup xs =>
    obtain ⟨a, vs, rfl, ha, _, _⟩ := h.tup sm
    exact sqT_ty ha
  | lst xs =>
    obtain ⟨a, vs, rfl, ha, _⟩ := h.lst sm
    exact .base (.lst ha)
  | dic ks xs =>
    obtain ⟨a, vs, rfl, ha, _, _⟩ := h.dic sm
    exact .base (.dK ha)
  | _ => cases hb
theorem kit_base {K : PySem.W.Frag} {t : Ty} {d : D} (hb : d.base = true) (ht : ∀ x, t ≠ .cls x) : PySem.W.kitOne K (.type d.ty) (.type t.nm) = some (t.is F d) := by
  refine kit_ty ?_
  cases d <;> first | cases hb | skip
  all_goals (cases t <;> first | exact absurd rfl (ht _) | skip)
  all_goals (simp only [D.ty, Ty.nm, Ty.is]; decide +kernel)
/-- isinstance by values: x the class, told as a type or as a class of the module -/
def rIs (K : PySem.W.Frag) (mg : Str → Option Value) (F : Ifc) (t : Ty) : List V → Hp → VK → Prop := fun xs H Q => ∃ S v cv d, xs = [v, cv] ∧ Same S H ∧ Vw K mg S H v d ∧ t.ok F d = true ∧
  (match t with | .cls x => ∃ C, IsF K mg F x C ∧ cv = .ref C | t => cv = .ty t.nm) ∧ Q (.bl (t.is F d)) H
theorem vw_exc {K : PySem.W.Frag} {mg : Str → Option Value} {S H : Hp} {v : V} {c : Str} {pl : List D} (h : Vw K mg S H v (.exc c pl)) : ∃ a C, v = .ref a ∧ mg c = some (.ref C) ∧
    ((S a = some (ExH (.ref C) none a)) ∨ ∃ dd w, S a = some (ExH (.ref C) (some dd) a) ∧ S dd = some (.xd [("most", w)])) := by
  rcases h with h | ⟨a, rfl, n, ⟨vs, ds, e1, e2, r⟩ | ⟨kvs, ks, ds, e1, e2, e3, r⟩⟩
  · cases h with
    | exc0 h1 h2 => exact ⟨_, _, rfl, h1, .inl h2⟩
    | exc1 h1 h2 h3 h4 => exact ⟨_, _, rfl, h1, .inr ⟨_, _, h2, h3⟩⟩
  · cases e1
  · cases e1
theorem bir_isi {t : Ty} : CallR X (.builtin "isinstance") (rIs X.K X.mg F t) := by
  intro pins s σ H xs us Q I r h
  obtain ⟨S, v, cv, d, rfl, sm, hv, hok, hc, q⟩ := h
  by_cases hb : d.base = true
  · have ty := vw_ty sm hv hb
    cases t with
    | cls x =>
      obtain ⟨C, hC, rfl⟩ := hc
      have e : (Ty.cls x).is F d = false := by cases d <;> first | rfl | cases hb
      rw [e] at q
      exact call_isi pins s σ H _ us Q I r ⟨v, .ref C, _, _, false, rfl, .own C, ty, hC.bt _ (by cases d <;> first | cases hb; done | (simp only [D.ty]; decide)), q⟩
    | _ => exact call_isi pins s σ H _ us Q I r ⟨v, _, _, _, _, by rw [hc], .ty _, ty, kit_base (F := F) hb (fun x z => by cases z), q⟩
  · cases d <;> first | exact absurd rfl hb | skip
    all_goals (cases t <;> first | cases hok | skip)
    rename_i c pl x
    obtain ⟨C, hC, rfl⟩ := hc
    obtain ⟨a, D, rfl, hD, ho⟩ := vw_exc hv
    obtain ⟨EC, hk⟩ := hC.ex c D hD hok
    obtain ⟨u1, u2, rfl, r1, r2⟩ := vals2 r
    cases (show u1 = Value.ref a from r1)
    cases (show u2 = Value.ref C from r2)
    have go : ∀ {dd : Option Addr} {od : Option Obj}, S a = some (ExH (.ref D) dd a) → (match dd, od with | some dx, some o => s.heap.get? dx = some o | none, none => True | _, _ => False) →
        wpAny (model X.prog X.w) X.A (call (.builtin "isinstance") [.ref a, .ref C]) (EP X pins σ Q) X.xe s := fun {dd od} ha hd => by
      obtain ⟨⟨oe, hoe, hz, vs, hvs⟩, _⟩ := (show ObjOk X.prog X.w H s.heap a (ExH (.ref D) dd a) from I.hok a _ (sm _ _ ha))
      have J : PySem.W.InstAt s.heap a oe D od := by
        obtain ⟨oc, odd, oda, osl⟩ := oe
        obtain ⟨h1, h2⟩ := hz
        dsimp only at h1 h2 hvs
        subst h1 h2 hvs
        exact ⟨hoe, rfl, rfl, hd⟩
      obtain ⟨cd, hcd, _⟩ := PySem.W.any_some EC.hd
      exact PySem.W.kia_one (PySem.W.kitx_exc (by rw [hcd]; rfl) EC.hg EC.hk EC.hs EC.ha EC.hn EC.ht EC.hm) I.kIn J hk (fun z => nomatch z) fun tk => ⟨.bl _, H, I.kept (t' := tk) fun _ _ z => z, rfl, q⟩
    rcases ho with ha | ⟨dd, w, ha, hx⟩
    · exact go (dd := none) (od := none) ha trivial
    · obtain ⟨mA, ⟨o, es, ep, ho, _⟩, _⟩ := (show ObjOk X.prog X.w H s.heap dd (.xd [("most", w)]) from I.hok dd _ (sm _ _ hx))
      exact go (dd := some dd) (od := some o) ha ho
end
end Mini

/- M3g -/
set_option Elab.async false
set_option linter.all false
set_option maxRecDepth 100000
set_option maxHeartbeats 1000000
/-! MINI 3g: environments changed: a name given a value, a list changed, places wiped, walked lists locked. -/
namespace Mini
open PySem PySem.Spec PyProof.Rows L2 LamX
def RV.slot : RV → Slot
  | .val d => .val d
  | .own d => .own d
theorem put_some {i : Nat} {r : RV} {ρ ρ' : Env} (e : put i r ρ = some ρ') : ∃ s, ρ[i]? = some s ∧ s.fix = false ∧ ρ' = ρ.set i r.slot := by
  unfold put at e
  split at e
  · rename_i h; cases e; exact ⟨_, h, rfl, by cases r <;> rfl⟩
  · rename_i h; cases e; exact ⟨_, h, rfl, by cases r <;> rfl⟩
  · rename_i h; cases e; exact ⟨_, h, rfl, by cases r <;> rfl⟩
  · cases e
section
variable {K : PySem.W.Frag} {mg : Str → Option Value} {T : List (Addr × Str)} {P P' : Hp} {la : Lk} {S S' H H' : Hp} {σ σ' : L2.St} {ρ ρ' : Env}
theorem mutD_of {ρ : Env} {i : Nat} {s : Slot} (e : ρ[i]? = some s) : mutD ρ i = s.mut? := by unfold mutD; rw [e]; rfl
theorem mutD_eq {ρ ρ' : Env} {i : Nat} (e : ρ[i]? = ρ'[i]?) : mutD ρ i = mutD ρ' i := by unfold mutD; rw [e]
theorem mutD_some {ρ : Env} {i : Nat} {d : D} (e : mutD ρ i = some d) : ∃ s, ρ[i]? = some s ∧ s.mut? = some d := by
  unfold mutD at e
  cases h : ρ[i]? with
  | none => rw [h] at e; cases e
  | some s => rw [h] at e; exact ⟨s, rfl, e⟩
theorem Rel.lt (R : Rel K mg T P la S H σ ρ) {i : Nat} {s : Slot} (e : ρ[i]? = some s) : i < σ.length := by
  rw [R.len]; exact (List.getElem?_eq_some_iff.mp e).1
/-- a name is given a value -/
theorem Rel.put (R : Rel K mg T P la S H σ ρ) {i : Nat} {r : RV} {v : V} (e : Mini.put i r ρ = some ρ') (l : lRV K mg P S H σ ρ r v) : Rel K mg T P la S H (σ.set i (some v)) ρ' := by
  obtain ⟨s, hs, hf, rfl⟩ := put_some e
  have hi : i < ρ.length := (List.getElem?_eq_some_iff.mp hs).1
  have hi' : i < σ.length := R.lt hs
  have gi : (ρ.set i r.slot)[i]? = some r.slot := List.getElem?_set_self hi
  have gj : ∀ j, j ≠ i → (ρ.set i r.slot)[j]? = ρ[j]? := fun j hj => List.getElem?_set_ne (Ne.symm hj)
  have si : (σ.set i (some v))[i]? = some (some v) := List.getElem?_set_self hi'
  have sj : ∀ j, j ≠ i → (σ.set i (some v))[j]? = σ[j]? := fun j hj => List.getElem?_set_ne (Ne.symm hj)
  refine ⟨R.sub, R.prot, R.dj, R.nt, R.tabs, R.tabN, by rw [List.length_set, List.length_set]; exact R.len, fun j d h => ?_, fun j d h => ?_, fun j s' h hf' => ?_, fun j d h => ?_, fun j k b hjk h1 h2 h3 => ?_⟩
  · by_cases hj : j = i
    · subst hj
      rw [gi] at h
      cases r with
      | val d' => cases h; exact ⟨v, si, l⟩
      | own d' => cases h
    · rw [gj j hj] at h
      rw [sj j hj]
      exact R.val j d h
  · by_cases hj : j = i
    · subst hj
      rw [mutD_of gi] at h
      cases r with
      | val d' => cases h
      | own d' =>
        cases h
        obtain ⟨a, rfl, w, hP, _⟩ := l
        exact ⟨a, si, w, hP⟩
    · rw [mutD_eq (gj j hj)] at h
      rw [sj j hj]
      exact R.mu j d h
  · have hj : j ≠ i := fun z => by
      subst z
      rw [gi] at h
      cases h
      cases r <;> cases hf'
    rw [gj j hj] at h
    rw [sj j hj]
    exact R.fix j s' h hf'
  · have hj : j ≠ i := fun z => by
      subst z
      have q := R.lks j d h
      rw [hs] at q
      cases q
      cases hf
    rw [gj j hj]
    exact R.lks j d h
  · have ownI : ∀ m, m ≠ i → (mutD (ρ.set i r.slot) i).isSome = true → (mutD (ρ.set i r.slot) m).isSome = true → ∀ b, (σ.set i (some v))[i]? = some (some (V.ref b)) → (σ.set i (some v))[m]? ≠ some (some (V.ref b)) := fun m hm q1 q2 b e1 e2 => by
      rw [mutD_of gi] at q1
      cases r with
      | val d' => cases q1
      | own d' =>
        obtain ⟨a, rfl, w, hP, hn⟩ := l
        rw [si] at e1
        cases e1
        rw [sj m hm] at e2
        rw [mutD_eq (gj m hm)] at q2
        exact hn m q2 e2
    by_cases hj : j = i
    · subst hj
      exact ownI k (Ne.symm hjk) h1 h2 b h3
    · by_cases hk : k = i
      · subst hk
        exact fun z => ownI j hj h2 h1 b z h3
      · rw [mutD_eq (gj j hj)] at h1
        rw [mutD_eq (gj k hk)] at h2
        rw [sj j hj] at h3
        rw [sj k hk]
        exact R.inj j k b hjk h1 h2 h3
/-- the list or dict at a name is changed -/
theorem Rel.change (R : Rel K mg T P la S H σ ρ) {i : Nat} {d : D} {a : Addr} {o : HO} (e : Mini.change i d ρ = some ρ') (ea : σ[i]? = some (some (V.ref a))) (w : OwC K mg S (upd H a o) a d) : Rel K mg T P la S (upd H a o) σ ρ' := by
  obtain ⟨s, s', d0, hs, hm, hs', rfl, hk, hd1, hd2⟩ : ∃ s s' d0, ρ[i]? = some s ∧ s.mut? = some d0 ∧ s'.mut? = some d ∧ ρ' = ρ.set i s' ∧ ((s'.fix = true → s.fix = true) ∧ (∀ x, s ≠ .lk x) ∧ (∀ x, s' ≠ .val x)) := by
    unfold Mini.change at e
    split at e
    · rename_i h; cases e; exact ⟨_, .own d, _, h, rfl, rfl, rfl, ⟨fun z => (by cases z), fun x z => (by cases z), fun x z => (by cases z)⟩⟩
    · rename_i h; cases e; exact ⟨_, .ref d, _, h, rfl, rfl, rfl, ⟨fun z => rfl, fun x z => (by cases z), fun x z => (by cases z)⟩⟩
    · cases e
  have hi : i < ρ.length := (List.getElem?_eq_some_iff.mp hs).1
  have gi : (ρ.set i s')[i]? = some s' := List.getElem?_set_self hi
  have gj : ∀ j, j ≠ i → (ρ.set i s')[j]? = ρ[j]? := fun j hj => List.getElem?_set_ne (Ne.symm hj)
  obtain ⟨a', ea', w0, hP⟩ := R.mu i d0 (by rw [mutD_of hs]; exact hm)
  rw [ea] at ea'
  cases ea'
  have mI : (mutD ρ i).isSome = true := by rw [mutD_of hs, hm]; rfl
  refine ⟨fun b x h => ?_, fun b x h => ?_, R.dj, R.nt, Tabs.upd R.tabs (Tabs.ne_own w0), R.tabN, by rw [List.length_set]; exact R.len, fun j d' h => ?_, fun j d' h => ?_, fun j s'' h hf' => ?_, fun j d' h => ?_, fun j k b hjk h1 h2 h3 => ?_⟩
  · rw [upd_ne (ne_of_none h w0.1)]
    exact R.sub b x h
  · rw [upd_ne (ne_of_none h hP)]
    exact R.prot b x h
  · have hj : j ≠ i := fun z => by
      subst z
      rw [gi] at h
      exact hd2 _ (Option.some.inj h)
    rw [gj j hj] at h
    exact R.val j d' h
  · by_cases hj : j = i
    · subst hj
      rw [mutD_of gi, hs'] at h
      cases h
      exact ⟨a, ea, w, hP⟩
    · rw [mutD_eq (gj j hj)] at h
      obtain ⟨b, e1, w', h2⟩ := R.mu j d' h
      have ne : b ≠ a := fun z => R.inj i j a (Ne.symm hj) mI (by rw [h]; rfl) ea (by rw [← z]; exact e1)
      exact ⟨b, e1, w'.mono (Same.refl S) w'.1 (fun o' q => by rw [upd_ne ne]; exact q), h2⟩
  · by_cases hj : j = i
    · subst hj
      rw [gi] at h
      cases h
      exact R.fix j s hs (hk hf')
    · rw [gj j hj] at h
      exact R.fix j s'' h hf'
  · have hj : j ≠ i := fun z => by
      subst z
      have q := R.lks j d' h
      rw [hs] at q
      exact hd1 _ (Option.some.inj q)
    rw [gj j hj]
    exact R.lks j d' h
  · have mm : ∀ m, (mutD (ρ.set i s') m).isSome = true → (mutD ρ m).isSome = true := fun m q => by
      by_cases hm : m = i
      · subst hm; exact mI
      · rw [← mutD_eq (gj m hm)]; exact q
    exact R.inj j k b hjk (mm j h1) (mm k h2) h3
/-- what others hold is changed -/
theorem Rel.prot_change {a : Addr} {o o' : HO} (R : Rel K mg T (upd P a o) la S H σ ρ) (hS : S a = none) (hT : (∀ ps, o ≠ .tbl ps) ∧ ∀ c q, o ≠ CodeO c q) (hT' : ∀ ps, o' ≠ .tbl ps := by intro ps z; cases z) : Rel K mg T (upd P a o') la S (upd H a o') σ ρ := by
  have Ha : H a = some o := R.prot _ _ upd_same
  refine ⟨fun b x h => ?_, fun b x h => ?_, fun b x h => ?_, ⟨R.nt.1, fun b ps z => ?_⟩, Tabs.upd R.tabs fun u e => ?_, fun q hq => ?_, R.len, R.val, fun j d' h => ?_, R.fix, R.lks, R.inj⟩
  · rw [upd_ne (ne_of_none h hS)]
    exact R.sub b x h
  · by_cases z : b = a
    · subst z; rw [upd_same] at h ⊢; exact h
    · rw [upd_ne z] at h ⊢; exact R.prot b x (by rw [upd_ne z]; exact h)
  · by_cases z : b = a
    · subst z; exact hS
    · rw [upd_ne z] at h; exact R.dj b x (by rw [upd_ne z]; exact h)
  · by_cases e : b = a
    · subst e; rw [upd_same] at z; exact hT' ps (Option.some.inj z)
    · rw [upd_ne e] at z; exact R.nt.2 b ps (by rw [upd_ne e]; exact z)
  · rw [Ha] at e; cases e; exact hT
  · have q1 := R.tabN q hq
    obtain ⟨ps, h1, _⟩ := R.tabs q hq
    have ne : q.1 ≠ a := fun z => by rw [z, Ha] at h1; exact hT.1 _ (Option.some.inj h1)
    refine ⟨q1.1, ?_⟩
    rw [upd_ne ne]
    have := q1.2
    rw [upd_ne ne] at this
    exact this
  · obtain ⟨b, e1, w', h2⟩ := R.mu j d' h
    have ne : b ≠ a := fun z => by rw [z, upd_same] at h2; cases h2
    exact ⟨b, e1, w'.mono (Same.refl S) w'.1 (fun o'' q => by rw [upd_ne ne]; exact q), by rw [upd_ne ne] at h2 ⊢; exact h2⟩

/-! ### places wiped and put back -/
theorem wipeE_len (ρ : Env) : ∀ is : List Nat, (wipeE ρ is).length = ρ.length
  | [] => rfl
  | i :: is => by rw [wipeE, List.length_set, wipeE_len ρ is]
theorem backE_len (ρ₀ ρ : Env) : ∀ is : List Nat, (backE ρ₀ ρ is).length = ρ.length
  | [] => rfl
  | i :: is => by rw [backE, List.length_set, backE_len ρ₀ ρ is]
theorem wipeE_out {ρ : Env} {j : Nat} : ∀ {is : List Nat}, j ∉ is → (wipeE ρ is)[j]? = ρ[j]?
  | [], _ => rfl
  | i :: is, h => by
    rw [wipeE, List.getElem?_set_ne (fun z => h (by rw [z]; exact List.mem_cons_self))]
    exact wipeE_out fun z => h (List.mem_cons_of_mem _ z)
theorem wipeE_in {ρ : Env} {j : Nat} : ∀ {is : List Nat}, j ∈ is → j < ρ.length → (wipeE ρ is)[j]? = some .no
  | i :: is, h, hl => by
    rw [wipeE]
    by_cases z : i = j
    · subst z; exact List.getElem?_set_self (by rw [wipeE_len]; exact hl)
    · rw [List.getElem?_set_ne z]
      exact wipeE_in (by rcases List.mem_cons.mp h with q | q; exact absurd q.symm z; exact q) hl
theorem backE_out {ρ₀ ρ : Env} {j : Nat} : ∀ {is : List Nat}, j ∉ is → (backE ρ₀ ρ is)[j]? = ρ[j]?
  | [], _ => rfl
  | i :: is, h => by
    rw [backE, List.getElem?_set_ne (fun z => h (by rw [z]; exact List.mem_cons_self))]
    exact backE_out fun z => h (List.mem_cons_of_mem _ z)
theorem backE_in {ρ₀ ρ : Env} {j : Nat} : ∀ {is : List Nat}, j ∈ is → j < ρ.length → (backE ρ₀ ρ is)[j]? = some (ρ₀[j]?.getD .no)
  | i :: is, h, hl => by
    rw [backE]
    by_cases z : i = j
    · subst z; exact List.getElem?_set_self (by rw [backE_len]; exact hl)
    · rw [List.getElem?_set_ne z]
      exact backE_in (by rcases List.mem_cons.mp h with q | q; exact absurd q.symm z; exact q) hl
theorem wipe_in {σ : L2.St} {j : Nat} : ∀ {is : List Nat}, j ∈ is → j < σ.length → (wipe σ is)[j]? = some none
  | i :: is, h, hl => by
    unfold wipe
    by_cases z : i = j
    · subst z; exact List.getElem?_set_self (by rw [wipe_length]; exact hl)
    · rw [List.getElem?_set_ne z]
      exact wipe_in (by rcases List.mem_cons.mp h with q | q; exact absurd q.symm z; exact q) hl
theorem lt_of_get {α : Type} {l : List α} {i : Nat} {x : α} (e : l[i]? = some x) : i < l.length := (List.getElem?_eq_some_iff.mp e).1
theorem Rel.wipe (R : Rel K mg T P la S H σ ρ) {own : List Nat} (hl : ∀ j ∈ own, la.lk j = none) : Rel K mg T P la S H (L2.wipe σ own) (wipeE ρ own) := by
  have out : ∀ {j : Nat} {s : Slot}, (wipeE ρ own)[j]? = some s → s ≠ .no → j ∉ own := fun {j s} e hn hm => by
    have := lt_of_get e
    rw [wipeE_len] at this
    rw [wipeE_in hm this] at e
    exact hn (Option.some.inj e).symm
  have mout : ∀ {j : Nat} {d : D}, mutD (wipeE ρ own) j = some d → j ∉ own := fun {j d} e => by
    obtain ⟨s, e1, e2⟩ := mutD_some e
    exact out e1 fun z => by rw [z] at e2; cases e2
  have moutS : ∀ {j : Nat}, (mutD (wipeE ρ own) j).isSome = true → j ∉ own := fun {j} e => by
    obtain ⟨d, e⟩ := Option.isSome_iff_exists.mp e
    exact mout e
  refine ⟨R.sub, R.prot, R.dj, R.nt, R.tabs, R.tabN, by rw [wipe_length, wipeE_len]; exact R.len, fun j d h => ?_, fun j d h => ?_, fun j s h hf => ?_, fun j d h => ?_, fun j k b hjk h1 h2 h3 => ?_⟩
  · have hj := out h fun z => by cases z
    rw [wipeE_out hj] at h
    rw [wipe_out hj]
    exact R.val j d h
  · have hj := mout h
    rw [mutD_eq (wipeE_out hj)] at h
    rw [wipe_out hj]
    exact R.mu j d h
  · have hj := out h fun z => by rw [z] at hf; cases hf
    rw [wipeE_out hj] at h
    rw [wipe_out hj]
    exact R.fix j s h hf
  · have hj : j ∉ own := fun z => by rw [hl j z] at h; cases h
    rw [wipeE_out hj]
    exact R.lks j d h
  · have hj := moutS h1
    have hk := moutS h2
    rw [mutD_eq (wipeE_out hj)] at h1
    rw [mutD_eq (wipeE_out hk)] at h2
    rw [wipe_out hj] at h3
    rw [wipe_out hk]
    exact R.inj j k b hjk h1 h2 h3
theorem block_lk (R : Rel K mg T P la S H σ ρ) {own : List Nat} (hb : blockOk ρ own = true) : ∀ j ∈ own, la.lk j = none := fun j hj => by
  unfold blockOk at hb
  have := List.all_eq_true.mp hb j hj
  cases e : la.lk j with
  | none => rfl
  | some d =>
    rw [R.lks j d e] at this
    cases this
theorem Rel.back {P₀ : Hp} {la₀ : Lk} {S₀ H₀ : Hp} (R₀ : Rel K mg T P₀ la₀ S₀ H₀ σ ρ) {own : List Nat} (hb : blockOk ρ own = true) (R : Rel K mg T P la S H (L2.wipe σ own) (wipeE ρ' own)) (sm : Same S₀ S) : Rel K mg T P la S H σ (backE ρ ρ' own) := by
  have hlen : ρ'.length = σ.length := by have := R.len; rw [wipe_length, wipeE_len] at this; exact this.symm
  have inn : ∀ {j : Nat} {s : Slot}, j ∈ own → (backE ρ ρ' own)[j]? = some s → s = .no ∨ ∃ d, s = .val d ∧ ρ[j]? = some (.val d) := fun {j s} hj e => by
    have := lt_of_get e
    rw [backE_len] at this
    rw [backE_in hj this] at e
    have hb2 := List.all_eq_true.mp hb j hj
    cases h : ρ[j]? with
    | none => rw [h] at hb2; cases hb2
    | some s' =>
      rw [h] at e hb2
      cases e
      cases s' <;> first | exact .inl rfl | exact .inr ⟨_, rfl, rfl⟩ | cases hb2
  have mout : ∀ {j : Nat}, (mutD (backE ρ ρ' own) j).isSome = true → j ∉ own := fun {j} e hj => by
    obtain ⟨d, e⟩ := Option.isSome_iff_exists.mp e
    obtain ⟨s, e1, e2⟩ := mutD_some e
    rcases inn hj e1 with rfl | ⟨d', rfl, _⟩ <;> cases e2
  refine ⟨R.sub, R.prot, R.dj, R.nt, R.tabs, R.tabN, by rw [backE_len]; exact hlen.symm, fun j d h => ?_, fun j d h => ?_, fun j s h hf => ?_, fun j d h => ?_, fun j k b hjk h1 h2 h3 => ?_⟩
  · by_cases hj : j ∈ own
    · rcases inn hj h with z | ⟨d', z, e⟩
      · cases z
      · cases z
        obtain ⟨v, e1, r⟩ := R₀.val j d e
        exact ⟨v, e1, r.mono sm⟩
    · rw [backE_out hj, ← wipeE_out hj] at h
      rw [← wipe_out hj]
      exact R.val j d h
  · have hj := mout (by rw [h]; rfl)
    rw [mutD_eq (show (backE ρ ρ' own)[j]? = (wipeE ρ' own)[j]? by rw [backE_out hj, wipeE_out hj])] at h
    rw [← wipe_out hj]
    exact R.mu j d h
  · have hj : j ∉ own := fun hj => by
      rcases inn hj h with rfl | ⟨d', rfl, _⟩ <;> cases hf
    rw [backE_out hj, ← wipeE_out hj] at h
    rw [← wipe_out hj]
    exact R.fix j s h hf
  · have q := R.lks j d h
    have hj : j ∉ own := fun hj => by
      have := lt_of_get q
      rw [wipeE_len] at this
      rw [wipeE_in hj this] at q
      cases q
    rw [backE_out hj, ← wipeE_out hj]
    exact q
  · have hj := mout h1
    have hk := mout h2
    rw [mutD_eq (show (backE ρ ρ' own)[j]? = (wipeE ρ' own)[j]? by rw [backE_out hj, wipeE_out hj])] at h1
    rw [mutD_eq (show (backE ρ ρ' own)[k]? = (wipeE ρ' own)[k]? by rw [backE_out hk, wipeE_out hk])] at h2
    rw [← wipe_out hj] at h3
    rw [← wipe_out hk]
    exact R.inj j k b hjk h1 h2 h3

/-! ### walked lists -/
def Slot.lock : Slot → Slot
  | .own d => .lk d
  | .ref d => .lk d
  | s => s
def Slot.back : Slot → Slot → Slot
  | .own d, _ => .own d
  | .ref d, _ => .ref d
  | _, s => s
theorem lock1_get (i j : Nat) (ρ : Env) : (lock1 i ρ)[j]? = if j = i then ρ[j]?.map Slot.lock else ρ[j]? := by
  unfold lock1
  by_cases h : j = i
  · subst h
    rw [if_pos rfl]
    cases e : ρ[j]? with
    | none => simp [e]
    | some s =>
      have hl := lt_of_get e
      cases s <;> first | exact e | exact List.getElem?_set_self hl
  · rw [if_neg h]
    split <;> first | rfl | exact List.getElem?_set_ne (Ne.symm h)
theorem lock_idem (s : Slot) : s.lock.lock = s.lock := by cases s <;> rfl
theorem lock_get (j : Nat) (ρ : Env) : ∀ is : List Nat, (lock is ρ)[j]? = if j ∈ is then ρ[j]?.map Slot.lock else ρ[j]?
  | [] => by simp [lock]
  | i :: is => by
    show (lock1 i (lock is ρ))[j]? = _
    rw [lock1_get, lock_get j ρ is]
    by_cases h : j = i
    · subst h
      rw [if_pos rfl, if_pos List.mem_cons_self]
      split
      · cases ρ[j]? with
        | none => rfl
        | some s => exact congrArg some (lock_idem s)
      · rfl
    · rw [if_neg h]
      by_cases h2 : j ∈ is
      · rw [if_pos h2, if_pos (List.mem_cons_of_mem _ h2)]
      · rw [if_neg h2, if_neg (by simp [h, h2])]
theorem lock_len (ρ : Env) : ∀ is : List Nat, (lock is ρ).length = ρ.length
  | [] => rfl
  | i :: is => by
    show (lock1 i (lock is ρ)).length = _
    unfold lock1
    split <;> first | (rw [List.length_set]; exact lock_len ρ is) | exact lock_len ρ is
theorem unlock1_get (ρ₀ : Env) (i j : Nat) (ρ : Env) : (unlock1 ρ₀ i ρ)[j]? = if j = i then ρ[j]?.map (fun s => (ρ₀[j]?.getD .no).back s) else ρ[j]? := by
  unfold unlock1
  by_cases h : j = i
  · subst h
    rw [if_pos rfl]
    cases e : ρ[j]? with
    | none =>
      have hl : ρ.length ≤ j := by simpa using e
      split <;> first
        | exact List.getElem?_eq_none (by rw [List.length_set]; exact hl)
        | exact e
    | some s =>
      have hl := lt_of_get e
      split
      · rename_i d h; rw [h]; exact List.getElem?_set_self hl
      · rename_i d h; rw [h]; exact List.getElem?_set_self hl
      · rename_i h1 h2
        rw [e]
        cases h : ρ₀[j]? with
        | none => rfl
        | some s' => cases s' <;> first | rfl | exact absurd h (h1 _) | exact absurd h (h2 _)
  · rw [if_neg h]
    split <;> first | rfl | exact List.getElem?_set_ne (Ne.symm h)
theorem back_idem (s t : Slot) : s.back (s.back t) = s.back t := by cases s <;> rfl
theorem unlock_get (ρ₀ : Env) (j : Nat) (ρ : Env) : ∀ is : List Nat, (unlock ρ₀ is ρ)[j]? = if j ∈ is then ρ[j]?.map (fun s => (ρ₀[j]?.getD .no).back s) else ρ[j]?
  | [] => by simp [unlock]
  | i :: is => by
    show (unlock1 ρ₀ i (unlock ρ₀ is ρ))[j]? = _
    rw [unlock1_get, unlock_get ρ₀ j ρ is]
    by_cases h : j = i
    · subst h
      rw [if_pos rfl, if_pos List.mem_cons_self]
      split
      · cases ρ[j]? with
        | none => rfl
        | some s => exact congrArg some (back_idem _ s)
      · rfl
    · rw [if_neg h]
      by_cases h2 : j ∈ is
      · rw [if_pos h2, if_pos (List.mem_cons_of_mem _ h2)]
      · rw [if_neg h2, if_neg (by simp [h, h2])]
theorem unlock_len (ρ₀ ρ : Env) : ∀ is : List Nat, (unlock ρ₀ is ρ).length = ρ.length
  | [] => rfl
  | i :: is => by
    show (unlock1 ρ₀ i (unlock ρ₀ is ρ)).length = _
    unfold unlock1
    split <;> first | (rw [List.length_set]; exact unlock_len ρ₀ ρ is) | exact unlock_len ρ₀ ρ is
def adAt (σ : L2.St) (i : Nat) : Option Addr := match σ[i]? with
  | some (some (V.ref a)) => some a
  | _ => none
theorem adAt_of {σ : L2.St} {i : Nat} {a : Addr} (e : σ[i]? = some (some (V.ref a))) : adAt σ i = some a := by unfold adAt; rw [e]
def lockL (la : Lk) (σ : L2.St) (ρ : Env) (is : List Nat) : Lk where
  ad := fun i => match ρ[i]? with | some (.own _) => if i ∈ is then adAt σ i else la.ad i | _ => la.ad i
  lk := fun i => if i ∈ is then (match ρ[i]? with | some (.own d) => some d | some (.ref d) => some d | some (.lk d) => some d | _ => la.lk i) else la.lk i
theorem mut_lock (s : Slot) : s.lock.mut? = s.mut? := by cases s <;> rfl
theorem mutD_lock (ρ : Env) (is : List Nat) (j : Nat) : mutD (lock is ρ) j = mutD ρ j := by
  unfold mutD
  rw [lock_get]
  split
  · cases ρ[j]? with
    | none => rfl
    | some s => exact mut_lock s
  · rfl
theorem Rel.lock (R : Rel K mg T P la S H σ ρ) (is : List Nat) : Rel K mg T P (lockL la σ ρ is) S H σ (Mini.lock is ρ) := by
  refine ⟨R.sub, R.prot, R.dj, R.nt, R.tabs, R.tabN, by rw [lock_len]; exact R.len, fun j d h => ?_, fun j d h => ?_, fun j s h hf => ?_, fun j d h => ?_, fun j k b hjk h1 h2 h3 => ?_⟩
  · refine R.val j d ?_
    rw [lock_get] at h
    split at h
    · cases e : ρ[j]? with
      | none => rw [e] at h; cases h
      | some s =>
        rw [e] at h
        have h : some s.lock = some (Slot.val d) := h
        cases s <;> first | exact h | cases h
    · exact h
  · rw [mutD_lock] at h
    exact R.mu j d h
  · by_cases hj : j ∈ is
    · rw [lock_get, if_pos hj] at h
      cases e : ρ[j]? with
      | none => rw [e] at h; cases h
      | some s' =>
        rw [e] at h
        have h : some s'.lock = some s := h
        have hs : s'.mut?.isSome = true := by cases h; cases s' <;> first | rfl | cases hf
        obtain ⟨d, hd⟩ := Option.isSome_iff_exists.mp hs
        obtain ⟨a, e1, _, _⟩ := R.mu j d (by rw [mutD_of e]; exact hd)
        have go : s'.fix = true → la.ad j = some a := fun z => by
          obtain ⟨b, q1, q2⟩ := R.fix j s' e z
          rw [e1] at q2
          cases q2
          exact q1
        refine ⟨a, ?_, e1⟩
        show (match ρ[j]? with | some (.own _) => if j ∈ is then adAt σ j else la.ad j | _ => la.ad j) = some a
        rw [e]
        cases s' with
        | own d' => show (if j ∈ is then adAt σ j else la.ad j) = some a; rw [if_pos hj]; exact adAt_of e1
        | ref d' => exact go rfl
        | lk d' => exact go rfl
        | _ => cases hs
    · rw [lock_get, if_neg hj] at h
      obtain ⟨a, e1, e2⟩ := R.fix j s h hf
      refine ⟨a, ?_, e2⟩
      show (match ρ[j]? with | some (.own _) => if j ∈ is then adAt σ j else la.ad j | _ => la.ad j) = some a
      rw [if_neg hj]
      split <;> exact e1
  · have h : (if j ∈ is then (match ρ[j]? with | some (.own d) => some d | some (.ref d) => some d | some (.lk d) => some d | _ => la.lk j) else la.lk j) = some d := h
    rw [lock_get]
    by_cases hj : j ∈ is
    · rw [if_pos hj] at h ⊢
      split at h
      · rename_i d' e; cases h; rw [e]; rfl
      · rename_i d' e; cases h; rw [e]; rfl
      · rename_i d' e; cases h; rw [e]; rfl
      · rw [R.lks j d h]; rfl
    · rw [if_neg hj] at h ⊢
      exact R.lks j d h
  · rw [mutD_lock] at h1 h2
    exact R.inj j k b hjk h1 h2 h3
theorem Rel.unlock {P₀ S₀ H₀ : Hp} {σ₀ : L2.St} {ρ₀ : Env} (R₀ : Rel K mg T P₀ la S₀ H₀ σ₀ ρ₀) {is : List Nat} (R : Rel K mg T P (lockL la σ₀ ρ₀ is) S H σ ρ) : Rel K mg T P la S H σ (Mini.unlock ρ₀ is ρ) := by
  -- what stands at a walked place
  have at_ : ∀ {j : Nat}, j ∈ is → ∀ {s₀ : Slot} {d : D}, ρ₀[j]? = some s₀ → (s₀ = .own d ∨ s₀ = .ref d) → ρ[j]? = some (.lk d) := fun {j} hj {s₀ d} e hs => by
    refine R.lks j d ?_
    show (if j ∈ is then (match ρ₀[j]? with | some (.own d) => some d | some (.ref d) => some d | some (.lk d) => some d | _ => la.lk j) else la.lk j) = some d
    rw [if_pos hj, e]
    rcases hs with rfl | rfl <;> rfl
  have other : ∀ {j : Nat}, (∀ d, ρ₀[j]? ≠ some (.own d) ∧ ρ₀[j]? ≠ some (.ref d)) ∨ j ∉ is → (Mini.unlock ρ₀ is ρ)[j]? = ρ[j]? := fun {j} h => by
    rw [unlock_get]
    split
    · rename_i hj
      rcases h with h | h
      · cases e : ρ₀[j]? with
        | none => cases ρ[j]? <;> rfl
        | some s₀ =>
          cases s₀ with
          | own d => exact absurd e (h d).1
          | ref d => exact absurd e (h d).2
          | _ => cases ρ[j]? <;> rfl
      · exact absurd hj h
    · rfl
  have cases_ : ∀ j : Nat, ((Mini.unlock ρ₀ is ρ)[j]? = ρ[j]? ∧ True) ∨ ∃ d, j ∈ is ∧ ρ[j]? = some (.lk d) ∧ ((ρ₀[j]? = some (.own d) ∧ (Mini.unlock ρ₀ is ρ)[j]? = some (.own d)) ∨ (ρ₀[j]? = some (.ref d) ∧ (Mini.unlock ρ₀ is ρ)[j]? = some (.ref d))) := fun j => by
    by_cases hj : j ∈ is
    · cases e : ρ₀[j]? with
      | none => exact .inl ⟨other (.inl fun d => ⟨by rw [e]; simp, by rw [e]; simp⟩), trivial⟩
      | some s₀ =>
        cases s₀ with
        | own d =>
          have q := at_ hj e (.inl rfl)
          refine .inr ⟨d, hj, q, .inl ⟨rfl, ?_⟩⟩
          rw [unlock_get, if_pos hj, q, e]
          rfl
        | ref d =>
          have q := at_ hj e (.inr rfl)
          refine .inr ⟨d, hj, q, .inr ⟨rfl, ?_⟩⟩
          rw [unlock_get, if_pos hj, q, e]
          rfl
        | _ => exact .inl ⟨other (.inl fun d => ⟨by rw [e]; simp, by rw [e]; simp⟩), trivial⟩
    · exact .inl ⟨other (.inr hj), trivial⟩
  have mD : ∀ j, mutD (Mini.unlock ρ₀ is ρ) j = mutD ρ j := fun j => by
    rcases cases_ j with ⟨h, _⟩ | ⟨d, _, h1, ⟨_, h2⟩ | ⟨_, h2⟩⟩
    · exact mutD_eq h
    · rw [mutD_of h1, mutD_of h2]; rfl
    · rw [mutD_of h1, mutD_of h2]; rfl
  refine ⟨R.sub, R.prot, R.dj, R.nt, R.tabs, R.tabN, by rw [unlock_len]; exact R.len, fun j d h => ?_, fun j d h => ?_, fun j s h hf => ?_, fun j d h => ?_, fun j k b hjk h1 h2 h3 => ?_⟩
  · rcases cases_ j with ⟨q, _⟩ | ⟨d', _, h1, ⟨_, h2⟩ | ⟨_, h2⟩⟩
    · rw [q] at h; exact R.val j d h
    · rw [h2] at h; cases h
    · rw [h2] at h; cases h
  · rw [mD] at h
    exact R.mu j d h
  · rcases cases_ j with ⟨q, _⟩ | ⟨d', hj, h1, ⟨_, h2⟩ | ⟨h0, h2⟩⟩
    · rw [q] at h
      obtain ⟨a, e1, e2⟩ := R.fix j s h hf
      have e1 : (match ρ₀[j]? with | some (.own _) => if j ∈ is then adAt σ₀ j else la.ad j | _ => la.ad j) = some a := e1
      split at e1
      · rename_i d' e0
        by_cases hj : j ∈ is
        · rw [unlock_get, if_pos hj, at_ hj e0 (.inl rfl), e0] at q
          cases q
        · rw [if_neg hj] at e1
          exact ⟨a, e1, e2⟩
      · exact ⟨a, e1, e2⟩
    · rw [h2] at h; cases h; cases hf
    · rw [h2] at h
      cases h
      obtain ⟨a, e1, e2⟩ := R₀.fix j _ h0 rfl
      obtain ⟨a', e3, e4⟩ := R.fix j _ h1 rfl
      have e3 : (match ρ₀[j]? with | some (.own _) => if j ∈ is then adAt σ₀ j else la.ad j | _ => la.ad j) = some a' := e3
      rw [h0] at e3
      have e3 : la.ad j = some a' := e3
      exact ⟨a', e3, e4⟩
  · rcases cases_ j with ⟨q, q2⟩ | ⟨d', hj, h1, ⟨h0, _⟩ | ⟨h0, _⟩⟩
    · rw [q]
      refine R.lks j d ?_
      show (if j ∈ is then (match ρ₀[j]? with | some (.own d) => some d | some (.ref d) => some d | some (.lk d) => some d | _ => la.lk j) else la.lk j) = some d
      rw [R₀.lks j d h]
      split
      · rfl
      · exact h
    · rw [R₀.lks j d h] at h0; cases h0
    · rw [R₀.lks j d h] at h0; cases h0
  · rw [mD] at h1 h2
    exact R.inj j k b hjk h1 h2 h3
end
end Mini

/- M3h -/
set_option Elab.async false
set_option linter.all false
set_option maxRecDepth 100000
set_option maxHeartbeats 1000000
/-! MINI 3h: append, pop, targets, what is walked. -/
namespace Mini
open PySem PySem.Spec PyProof.Rows L2 LamX
section
variable {K : PySem.W.Frag} {mg : Str → Option Value} {T : List (Addr × Str)} {P P' : Hp} {la : Lk} {S S' H H' : Hp} {σ σ' : L2.St} {ρ ρ' : Env}
theorem owned_mut {i : Nat} {d : D} (e : owned i ρ = some d) : mutD ρ i = some d := by
  unfold owned at e
  unfold mutD
  split at e
  · rename_i h; cases e; rw [h]; rfl
  · rename_i h; cases e; rw [h]; rfl
  · cases e
end
section
variable {X : Cx} {T : List (Addr × Str)} {W : WX} {F : Ifc} {pos p apos cpos : Pos} {a b c e : Expr} {A B C : E} {es : List Expr} {x : Str} {i : Nat}
theorem sd_app (hN : X.N[i]? = some x) (hv : Vis X.env.scope x) (hd : (x == ("__debug__" : Str)) = false) (hcd : (x == ("__classdict__" : Str)) = false) (ha : SdE X T W a (denE F A))
    (hfew : ((backTo cpos (starEach [a] X.env)).all (fun x => !x.1) && (backToKw cpos (keywordEach [] X.env)).all (fun x => x.1.isSome) && decide (([a] : List Expr).length + ([] : List Keyword).length + (if ([] : List Keyword).isEmpty then 0 else 1) < 30)) = true)
    (hline : (apos.endLine == cpos.line) = true) (hs : starEach [a] X.env = (false, eval a X.env) :: starEach [] X.env) :
    SdE X T W (.Call (.Attribute (.Name x p) "append" apos) [a] [] cpos) (denE F (.app i A)) := by
  refine (pe_bm PySem.F.plainAttrs_list PySem.F.slot_list_append PySem.F.type_list_append mt_append (pe_var hN hv hd hcd) (pa_cons (sdV ha) pa_nil hs) (by rfl) hfew hline hs (by rfl)).imp fun σ H Q ⟨P, la, S, ρ, R, q⟩ => ?_
  rw [denE] at q
  dsimp only at q
  split at q
  · rename_i xs0 e0
    obtain ⟨l, e1, w, hP⟩ := R.mu i _ (owned_mut e0)
    have hl : ∃ vs, H l = some (.lst vs) := by
      obtain ⟨_, ⟨vs, ds, z, e2, _⟩ | ⟨kvs, ks, ds, z, _⟩⟩ := w
      · exact ⟨vs, e2⟩
      · cases z
    obtain ⟨vs0, hl⟩ := hl
    refine ⟨.ref l, e1, .inl ⟨rfl, vs0, .inl (.inl hl)⟩, P, la, S, ρ, R, ?_⟩
    refine (post.bind (R1 := lD X.K X.mg) q).imp fun y H1 ⟨S1, ρ1, d, R1, sm1, l1, p1⟩ => ?_
    show rAppend (.ref l) [y] H1 Q
    split at p1
    · rename_i xs e3
      split at p1
      · rename_i hz
        obtain ⟨ρ', ec, p2⟩ := post.of (R := fun _ _ _ _ _ _ (_ : Unit) => True) (Q := fun _ _ => True) (ρ := ρ1) (la := la) (T := T) (K := X.K) (mg := X.mg) (W := W) (P := P) (S := S1) (σ := σ) (o := change i (.lst (xs ++ [d])) ρ1) (by
          cases hc : change i (.lst (xs ++ [d])) ρ1 with
          | none => rw [hc] at p1; exact p1.elim
          | some r => exact fun _ _ _ _ _ _ => trivial)
        rw [ec] at p1
        obtain ⟨l', e4, w', hP'⟩ := R1.mu i _ (owned_mut e3)
        rw [e1] at e4
        cases e4
        obtain ⟨nS, ⟨vs, ds, z, e5, rv⟩ | ⟨kvs, ks, ds, z, _⟩⟩ := w'
        · cases z
          have l1 : Rp X.K X.mg S1 y d := l1
          refine ⟨l, vs, y, rfl, rfl, e5, by rw [rv.length, line_eq]; exact hz, ?_⟩
          exact p1 .non S1 _ (R1.change (o := .lst (vs ++ [y])) ec e1 ⟨nS, .inl ⟨_, _, rfl, upd_same, rv.append (.cons l1 .nil)⟩⟩) (Same.refl _) .non
        · cases z
      · exact p1.elim
    · exact p1.elim
  · exact q.elim
theorem sd_pop (hN : X.N[i]? = some x) (hv : Vis X.env.scope x) (hd : (x == ("__debug__" : Str)) = false) (hcd : (x == ("__classdict__" : Str)) = false) (hline : (apos.endLine == cpos.line) = true) :
    SdE X T W (.Call (.Attribute (.Name x p) "pop" apos) [] [] cpos) (denE F (.pop i)) := by
  refine (pe_bm0 PySem.F.plainAttrs_list PySem.F.slot_list_pop PySem.F.type_list_pop mt_pop (pe_var hN hv hd hcd) (by rfl) hline).imp fun σ H Q ⟨P, la, S, ρ, R, q⟩ => ?_
  rw [denE] at q
  dsimp only at q
  split at q
  · rename_i xs e0
    obtain ⟨l, e1, w, hP⟩ := R.mu i _ (owned_mut e0)
    obtain ⟨nS, ⟨vs, ds, z, e5, rv⟩ | ⟨kvs, ks, ds, z, _⟩⟩ := w
    · cases z
      split at q
      · rename_i d ed
        cases hc : change i (.lst xs.dropLast) ρ with
        | none => rw [hc] at q; exact q.elim
        | some ρ' =>
          rw [hc] at q
          rw [List.getLast?_eq_getElem?] at ed
          obtain ⟨v, ev, rd⟩ := rv.get ed
          refine ⟨.ref l, e1, .inl ⟨rfl, vs, .inl (.inl e5)⟩, l, vs, v, rfl, rfl, e5, by rw [rv.length]; exact ev, ?_⟩
          have rdl : RpL X.K X.mg S vs.dropLast xs.dropLast := by
            rw [List.dropLast_eq_take, List.dropLast_eq_take, rv.length]
            exact rv.take _
          exact q v S _ (R.change (o := .lst vs.dropLast) hc e1 ⟨nS, .inl ⟨_, _, rfl, upd_same, rdl⟩⟩) (Same.refl _) rd
      · exact q.elim
    · cases z
  · exact q.elim
end
/-! ### targets -/
section
variable {X : Cx} {T : List (Addr × Str)} {F : Ifc} {pos p : Pos}
def TGr (K : PySem.W.Frag) (mg : Str → Option Value) (T : List (Addr × Str)) (t : Tg) : TG := fun v σ H Q => ∃ P la S ρ d ρ', Rel K mg T P la S H σ ρ ∧ Rp K mg S v d ∧ asg t d ρ = some ρ' ∧
  ∀ σ', Rel K mg T P la S H σ' ρ' → (∀ j, j ∉ t.slots → σ'[j]? = σ[j]?) → σ'.length = σ.length → Q σ' H
def TGrs (K : PySem.W.Frag) (mg : Str → Option Value) (T : List (Addr × Str)) (ts : List Tg) : TGs := fun vs σ H Q => ∃ P la S ρ ds ρ', Rel K mg T P la S H σ ρ ∧ RpL K mg S vs ds ∧ asgs ts ds ρ = some ρ' ∧
  ∀ σ', Rel K mg T P la S H σ' ρ' → (∀ j, j ∉ Tg.slotsL ts → σ'[j]? = σ[j]?) → σ'.length = σ.length → Q σ' H
abbrev SdG (X : Cx) (T : List (Addr × Str)) (e : Expr) (t : Tg) : Prop := PG X e (TGr X.K X.mg T t)
theorem _root_.L2.PG.imp {X : Cx} {e : Expr} {t t' : TG} (h : PG X e t) (i : ∀ v σ H Q, t' v σ H Q → t v σ H Q) : PG X e t' := ⟨fun pins s σ H v u Q I r hq => h.run pins s σ H v u Q I r (i v σ H Q hq)⟩
theorem _root_.L2.PGs.imp {X : Cx} {e : List Expr} {t t' : TGs} (h : PGs X e t) (i : ∀ v σ H Q, t' v σ H Q → t v σ H Q) : PGs X e t' := ⟨fun pins s σ H v u Q I r hq => h.run pins s σ H v u Q I r (i v σ H Q hq)⟩
theorem sg_name {i : Nat} {x : Str} (hN : X.N.Nodup) (hi : X.N[i]? = some x) (hx : Loc X.env.scope x) (hf : X.fn x = true ∨ X.env.scope.names.lookup x = some .local) : SdG X T (.Name x pos) (.sl i) := by
  refine (pg_name hN hi hx hf).imp fun v σ H Q ⟨P, la, S, ρ, d, ρ', R, r, e, q⟩ => ?_
  rw [asg] at e
  exact q _ (R.put e r) (fun j hj => List.getElem?_set_ne (fun z => hj (by rw [Tg.slots, z]; exact List.mem_singleton.mpr rfl))) (by rw [List.length_set])
theorem sgs_nil : PGs X [] (TGrs X.K X.mg T []) := by
  refine pgs_nil.imp fun vs σ H Q ⟨P, la, S, ρ, ds, ρ', R, r, e, q⟩ => ?_
  cases r with
  | nil =>
    rw [asgs] at e
    cases e
    exact ⟨rfl, q σ R (fun j _ => rfl) rfl⟩
  | cons h r => cases e
theorem sgs_cons {e : Expr} {es : List Expr} {t : Tg} {ts : List Tg} (h1 : SdG X T e t) (h2 : PGs X es (TGrs X.K X.mg T ts)) (hs : (assignEach (e :: es) X.env).map (·.2) = assign e X.env :: (assignEach es X.env).map (·.2)) :
    PGs X (e :: es) (TGrs X.K X.mg T (t :: ts)) := by
  refine (pgs_cons h1 h2 hs).imp fun vs σ H Q ⟨P, la, S, ρ, ds, ρ', R, r, e, q⟩ => ?_
  cases r with
  | nil => cases e
  | @cons v vs d ds h r =>
    rw [asgs] at e
    cases e1 : asg t d ρ with
    | none => rw [e1] at e; cases e
    | some ρ1 =>
      rw [e1] at e
      refine ⟨v, vs, rfl, P, la, S, ρ, d, ρ1, R, h, e1, fun σ1 R1 h1 h1l => ?_⟩
      refine ⟨P, la, S, ρ1, ds, ρ', R1, r, e, fun σ2 R2 h2 h2l => q σ2 R2 (fun j hj => ?_) (by rw [h2l, h1l])⟩
      rw [Tg.slotsL, List.mem_append, not_or] at hj
      rw [h2 j hj.2, h1 j hj.1]
theorem asgs_len : ∀ {ts : List Tg} {ds : List D} {ρ ρ' : Env}, asgs ts ds ρ = some ρ' → ds.length = ts.length
  | [], [], _, _, _ => rfl
  | [], _ :: _, _, _, e => by cases e
  | _ :: _, [], _, _, e => by cases e
  | t :: ts, d :: ds, ρ, ρ', e => by
    rw [asgs] at e
    cases e1 : asg t d ρ with
    | none => rw [e1] at e; cases e
    | some ρ1 =>
      rw [e1] at e
      rw [List.length_cons, List.length_cons, asgs_len (ts := ts) e]
theorem sg_tup {es : List Expr} {k : Nat} {ts : List Tg} (hc : X.calm = true) (h : PGs X es (TGrs X.K X.mg T ts)) (hn : (assignEach es X.env).length = ts.length) (hst : (assignEach es X.env).findIdx? (·.1) = none) : SdG X T (.Tuple es k pos) (.tp ts) := by
  refine (pg_tup hc h hn hst).imp fun v σ H Q ⟨P, la, S, ρ, d, ρ', R, r, e, q⟩ => ?_
  cases d with
  | tup ds =>
    rw [asg] at e
    cases r with
    | tup hs rr =>
      exact ⟨_, _, rfl, same_seqT R.sub hs, by rw [rr.length]; exact asgs_len e, P, la, S, ρ, ds, ρ', R, rr, e, fun σ' R' h1 h2 => q σ' R' (fun j hj => h1 j (by rw [Tg.slots] at hj; exact hj)) h2⟩
  | _ => cases e
end
/-! ### what is walked -/
/-- J walks xs, from S on, as long as the walked lists of ρ are locked -/
def Wk (K : PySem.W.Frag) (mg : Str → Option Value) (T : List (Addr × Str)) (S₀ : Hp) (σ₀ : L2.St) (ρ₀ : Env) (is : List Nat) (xs : List D) (J : It) : Prop :=
  ∀ P la S H σ ρ i, Rel K mg T P la S H σ ρ → Same S₀ S → (∀ j ∈ is, ∀ d, mutD ρ₀ j = some d → ∃ a, ρ[j]? = some (Slot.lk d) ∧ σ₀[j]? = some (some (V.ref a)) ∧ σ[j]? = some (some (V.ref a))) →
    (∀ d, xs[i]? = some d → J.go i H ∧ ∀ x H', J.yld i H x H' → ∃ S', Rel K mg T P la S' H' σ ρ ∧ Same S S' ∧ Rp K mg S' x d) ∧ (xs.length ≤ i → J.stop i H)
def lI (K : PySem.W.Frag) (mg : Str → Option Value) (T : List (Addr × Str)) (is : List Nat) : Lies (List D) It := fun P S H σ ρ xs J => Wk K mg T S σ ρ is xs J
def TRI (K : PySem.W.Frag) (mg : Str → Option Value) (T : List (Addr × Str)) (W : WX) (is : List Nat) (g : Den (List D)) : TI := fun σ H R =>
  ∃ P la S ρ, Rel K mg T P la S H σ ρ ∧ post K mg T W (lI K mg T is) P la S σ R (g ρ)
abbrev SdI (X : Cx) (T : List (Addr × Str)) (W : WX) (tg e : Expr) (E : E) (F : Ifc) : Prop := PI X tg e (TRI X.K X.mg T W (walked E) (vIt E (denE F E)))
theorem _root_.L2.PI.imp {X : Cx} {tg e : Expr} {t t' : TI} (h : PI X tg e t) (i : ∀ σ H R, t' σ H R → t σ H R) : PI X tg e t' := ⟨fun pins s σ H R I hq => h.run pins s σ H R I (i σ H R hq)⟩
section
variable {X : Cx} {T : List (Addr × Str)} {W : WX} {F : Ifc} {pos p : Pos} {tg e : Expr} {E : E}
theorem pi_seq {l : Expr} {tl : TE} (hl : PE X l tl) : PI X tg l (fun σ H R => tl σ H fun x H1 => (∃ a, x = .ref a ∧ (∃ xs, SqL X.K H1 a xs) ∧ R (Itl X.K a) H1) ∨ ∃ a, x = .ref a ∧ (∃ xs, SqT X.K H1 a xs) ∧ R (Itt X.K a) H1) := by
  refine ⟨fun pins s σ H R I h => ?_⟩
  refine thn (hl.run pins s σ H _ I h) fun v s1 ⟨x, H1, I1, r1, q1⟩ => ?_
  rcases q1 with ⟨a, e, ⟨xs, hq⟩, q⟩ | ⟨a, e, ⟨xs, hq⟩, q⟩
  · subst e
    cases r1
    obtain ⟨its, rv, p, hz⟩ := I1.list hq
    refine wpAny_pyIter_list p.isList ?_
    refine ⟨s1.heap.objs.size, [s1.heap.objs.size], _, _, H1, rfl, I1.kept (t' := s1.toks) fun b o e => Heap.get?_push_of_some _ e, turn_list a _, ⟨_, Heap.get?_push_size _ rfl, rfl, rfl⟩, fun b hb => ?_, q⟩
    have e : b = s1.heap.objs.size := by simpa using hb
    subst e
    exact I1.fpOk (Nat.le_refl _) (I1.hok.fresh (Nat.le_refl _))
  · subst e
    cases r1
    obtain ⟨its, rv, p, hz⟩ := I1.tuple hq
    refine wpAny_pyIter_tuple (show s1.heap.IsTuple a its.toArray from p) ?_
    refine ⟨s1.heap.objs.size, [s1.heap.objs.size], _, _, H1, rfl, I1.kept (t' := s1.toks) fun b o e => Heap.get?_push_of_some _ e, turn_tuple a _, ⟨_, Heap.get?_push_size _ rfl, rfl, rfl⟩, fun b hb => ?_, q⟩
    have e : b = s1.heap.objs.size := by simpa using hb
    subst e
    exact I1.fpOk (Nat.le_refl _) (I1.hok.fresh (Nat.le_refl _))
/-- a list at a walks as its values, wherever it stays -/
theorem wk_list {K : PySem.W.Frag} {mg : Str → Option Value} {S₀ : Hp} {σ₀ : L2.St} {ρ₀ : Env} {is : List Nat} {ds : List D} {a : Addr}
    (h : ∀ P la S H σ ρ, Rel K mg T P la S H σ ρ → Same S₀ S → (∀ j ∈ is, ∀ d, mutD ρ₀ j = some d → ∃ a, ρ[j]? = some (Slot.lk d) ∧ σ₀[j]? = some (some (V.ref a)) ∧ σ[j]? = some (some (V.ref a))) → ∃ vs, SqL K H a vs ∧ RpL K mg S vs ds) :
    Wk K mg T S₀ σ₀ ρ₀ is ds (Itl K a) := fun P la S H σ ρ i R sm hk => by
  obtain ⟨vs, h1, h2⟩ := h P la S H σ ρ R sm hk
  refine ⟨fun d e => ?_, fun e => ⟨vs, h1, by rw [h2.length]; exact e⟩⟩
  obtain ⟨v, ev, r⟩ := h2.get e
  refine ⟨⟨vs, v, h1, ev⟩, fun x H' ⟨e1, e2⟩ => ?_⟩
  subst e1
  have := e2 vs h1
  rw [ev] at this
  cases this
  exact ⟨S, R, Same.refl S, r⟩
theorem wk_tup {K : PySem.W.Frag} {mg : Str → Option Value} {S₀ : Hp} {σ₀ : L2.St} {ρ₀ : Env} {is : List Nat} {ds : List D} {a : Addr} {vs : List V} (h1 : SqT K S₀ a vs) (h2 : RpL K mg S₀ vs ds) : Wk K mg T S₀ σ₀ ρ₀ is ds (Itt K a) := fun P la S H σ ρ i R sm hk => by
  have h1 := same_seqT R.sub (same_seqT sm h1)
  have h2 := rpL_mono sm h2
  refine ⟨fun d e => ?_, fun e => ⟨vs, h1, by rw [h2.length]; exact e⟩⟩
  obtain ⟨v, ev, r⟩ := h2.get e
  refine ⟨⟨vs, v, h1, ev⟩, fun x H' ⟨e1, e2⟩ => ?_⟩
  subst e1
  have := e2 vs h1
  rw [ev] at this
  cases this
  exact ⟨S, R, Same.refl S, r⟩
theorem vO_sl {E : Mini.E} {f : Den RV} {ρ ρ1 : Env} {j : Nat} (h : vO E f ρ = .ok (.sl j) ρ1) : E = .slot j ∧ ρ1 = ρ := by
  have other : (f ρ).bind (fun r ρ => Res.ok (Opd.v r.d) ρ) = .ok (.sl j) ρ1 → False := fun h => by cases e : f ρ <;> rw [e] at h <;> cases h
  cases E with
  | slot i =>
    unfold vO at h
    dsimp only at h
    split at h <;> cases h
    exact ⟨rfl, rfl⟩
  | _ => exact (other h).elim
/-- a value that is walked -/
theorem si_seq (h : SdO X T W e (vO E (denE F E))) (hw : ∀ i, E = .slot i → walked E = [i]) : SdI X T W tg e E F := by
  refine (pi_seq h).imp fun σ H R ⟨P, la, S, ρ, RR, q⟩ => ⟨P, la, S, ρ, RR, ?_⟩
  unfold vIt at q
  cases hv : vO E (denE F E) ρ with
  | bad => rw [hv] at q; exact q.elim
  | ex c pl ρ1 => rw [hv] at q; exact q
  | ok o ρ1 =>
    rw [hv] at q
    intro x S1 H1 R1 sm1 l1
    obtain ⟨xs, ez, p2⟩ := post.of (post.mono sm1 q)
    cases e1 : fetch ρ1 o with
    | none => rw [e1] at ez; cases ez
    | some d =>
      rw [e1] at ez
      have fin : ∀ {J : It}, Wk X.K X.mg T S1 σ ρ1 (walked E) xs J → R J H1 := fun {J} hw => p2 J S1 H1 R1 (Same.refl _) hw
      have stays : ∀ {a : Addr} {vs : List V} {ds : List D}, SqL X.K S1 a vs → RpL X.K X.mg S1 vs ds → Wk X.K X.mg T S1 σ ρ1 (walked E) ds (Itl X.K a) := fun h1 h2 => wk_list fun P la S H σ ρ R sm _ => ⟨_, same_seqL R.sub (same_seqL sm h1), rpL_mono sm h2⟩
      have hr : Rp X.K X.mg S1 x d ∨ ∃ j, o = .sl j ∧ mutD ρ1 j = some d := by
        cases o with
        | sl j =>
          rcases look_cases (show look j ρ1 = some d from e1) with h | h
          · obtain ⟨v, e2, r⟩ := R1.val j d h
            have l1 : σ[j]? = some (some x) := l1
            rw [l1] at e2
            cases e2
            exact .inl r
          · exact .inr ⟨j, rfl, h⟩
        | v d' => cases e1; exact .inl l1
        | t d' => exact l1.elim
      rcases hr with r | ⟨j, rfl, hm⟩
      · cases r with
        | tup h rr =>
          cases ez
          exact .inr ⟨_, rfl, ⟨_, same_seqT R1.sub h⟩, fin (wk_tup h rr)⟩
        | lst h rr =>
          cases ez
          exact .inl ⟨_, rfl, ⟨_, .inl (.inl (R1.sub _ _ h))⟩, fin (stays (.inl (.inl h)) rr)⟩
        | scr h =>
          cases ez
          exact .inl ⟨_, rfl, ⟨_, same_seqL R1.sub h⟩, fin (stays h (rpL_ints _ _))⟩
        | _ => cases ez
      · obtain ⟨rfl, rfl⟩ := vO_sl hv
        obtain ⟨a, ea, w, hP⟩ := R1.mu j d hm
        have l1 : σ[j]? = some (some x) := l1
        rw [l1] at ea
        cases ea
        obtain ⟨nS, ⟨vs, ds, rfl, e5, rv⟩ | ⟨kvs, ks, ds, rfl, _⟩⟩ := w
        · cases ez
          refine .inl ⟨a, rfl, ⟨vs, .inl (.inl e5)⟩, fin (wk_list fun P' la' S' H' σ' ρ' R' sm' hk => ?_)⟩
          obtain ⟨b, h1, h2, h3⟩ := hk j (by rw [hw j rfl]; exact List.mem_singleton.mpr rfl) _ hm
          rw [l1] at h2
          cases h2
          obtain ⟨b, h4, ⟨_, ⟨vs', ds', z, h5, h6⟩ | ⟨kvs, ks, ds, z, _⟩⟩, _⟩ := R'.mu j _ (show mutD ρ' j = some (.lst xs) by rw [mutD_of h1]; rfl)
          · cases z
            rw [h3] at h4
            cases h4
            exact ⟨vs', .inl (.inl h5), h6⟩
          · cases z
        · cases ez
/-! ranges -/
theorem wk_rng {K : PySem.W.Frag} {mg : Str → Option Value} {S₀ : Hp} {σ₀ : L2.St} {ρ₀ : Env} {is : List Nat} (lo : Int) (n : Nat) : Wk K mg T S₀ σ₀ ρ₀ is (rangeI lo n) (Itr lo n) := fun P la S H σ ρ i R sm hk => by
  have hl : (rangeI lo n).length = n := by unfold rangeI; rw [List.length_map, List.length_range]
  refine ⟨fun d e => ?_, fun e => by rw [hl] at e; exact e⟩
  have hi : i < n := by have := lt_of_get e; rw [hl] at this; exact this
  refine ⟨hi, fun x H' ⟨e1, e2⟩ => ?_⟩
  subst e1 e2
  unfold rangeI at e
  rw [List.getElem?_map, List.getElem?_range hi] at e
  cases e
  exact ⟨S, R, Same.refl S, .int _⟩
theorem wk_rngC {K : PySem.W.Frag} {mg : Str → Option Value} {S₀ : Hp} {σ₀ : L2.St} {ρ₀ : Env} {is : List Nat} (lo c : Int) (n : Nat) : Wk K mg T S₀ σ₀ ρ₀ is (rangeS lo c n) (Itc lo c n) := fun P la S H σ ρ i R sm hk => by
  have hl : (rangeS lo c n).length = n := by unfold rangeS; rw [List.length_map, List.length_range]
  refine ⟨fun d e => ?_, fun e => by rw [hl] at e; exact e⟩
  have hi : i < n := by have := lt_of_get e; rw [hl] at this; exact this
  refine ⟨hi, fun x H' ⟨e1, e2⟩ => ?_⟩
  subst e1 e2
  unfold rangeS at e
  rw [List.getElem?_map, List.getElem?_range hi] at e
  cases e
  exact ⟨S, R, Same.refl S, .int _⟩
/-! arguments that are kept -/
abbrev SdVs (X : Cx) (T : List (Addr × Str)) (W : WX) (es : List Expr) (g : Den (List D)) : Prop := PA X es (TR X.K X.mg T W (lDs X.K X.mg) g)
theorem sdvs_nil : SdVs X T W [] (vVs []) := pa_nil.imp fun σ H Q ⟨P, la, S, ρ, R, q⟩ => q [] S H R (Same.refl _) .nil
theorem sdvs_cons {a : Expr} {es : List Expr} {g : Den RV} {gs : List (Den RV)} (ha : SdE X T W a g) (hs : SdVs X T W es (vVs gs)) (he : starEach (a :: es) X.env = (false, eval a X.env) :: starEach es X.env) : SdVs X T W (a :: es) (vVs (g :: gs)) := by
  refine (pa_cons (sdV ha) hs he).imp fun σ H Q ⟨P, la, S, ρ, R, q⟩ => ⟨P, la, S, ρ, R, ?_⟩
  rw [vVs] at q
  refine (post.bind (R1 := lD X.K X.mg) q).imp fun x H1 ⟨S1, ρ1, a1, R1, sm1, l1, p1⟩ => ⟨P, la, S1, ρ1, R1, ?_⟩
  refine (post.bind (R1 := lDs X.K X.mg) p1).imp fun y H2 ⟨S2, ρ2, a2, R2, sm2, l2, p2⟩ => ?_
  exact p2 _ S2 H2 R2 (Same.refl _) (.cons (Rp.mono sm2 l1) l2)
theorem vVs_len : ∀ {gs : List (Den RV)} {ρ ρ' : Env} {ds : List D}, vVs gs ρ = .ok ds ρ' → ds.length = gs.length
  | [], _, _, _, h => by cases h; rfl
  | g :: gs, ρ, ρ', ds, h => by
    rw [vVs] at h
    cases h1 : vV g ρ with
    | bad => rw [h1] at h; cases h
    | ex c pl ρ1 => rw [h1] at h; cases h
    | ok d ρ1 =>
      rw [h1, Res.bind_ok] at h
      cases h2 : vVs gs ρ1 with
      | bad => rw [h2] at h; cases h
      | ex c pl ρ1 => rw [h2] at h; cases h
      | ok ds' ρ2 =>
        rw [h2] at h
        cases h
        rw [List.length_cons, List.length_cons, vVs_len h2]
theorem within_ok {i : Int} (h : within i = true) : -(2 ^ 62) ≤ i ∧ i < 2 ^ 62 := by
  unfold within big at h
  simpa using h
theorem range_go {Es : List Mini.E} {σ : L2.St} {H : Hp} {R : It → Hp → Prop} (h : TRI X.K X.mg T W (walked (.range Es)) (vIt (.range Es) (denE F (.range Es))) σ H R) :
    TR X.K X.mg T W (lDs X.K X.mg) (vVs (denL F Es)) σ H fun vs H1 => ∃ S σ ρ ds xs, RpL X.K X.mg S vs ds ∧ ds.length = (denL F Es).length ∧ rangeD ds = some xs ∧ ∀ J, Wk X.K X.mg T S σ ρ [] xs J → R J H1 := by
  obtain ⟨P, la, S, ρ, RR, q⟩ := h
  refine ⟨P, la, S, ρ, RR, ?_⟩
  have e : vIt (.range Es) (denE F (.range Es)) ρ = (vVs (denL F Es) ρ).bind fun ds ρ => Res.of (rangeD ds) ρ := by
    unfold vIt vO
    dsimp only
    rw [denE]
    dsimp only
    cases vVs (denL F Es) ρ with
    | bad => rfl
    | ex c pl ρ => rfl
    | ok ds ρ1 =>
      simp only [Res.bind_ok]
      cases rangeD ds <;> rfl
  rw [e] at q
  cases hv : vVs (denL F Es) ρ with
  | bad => rw [hv] at q; exact q.elim
  | ex c pl ρ1 => rw [hv] at q; exact q
  | ok ds ρ1 =>
    rw [hv] at q
    intro vs S1 H1 R1 sm1 l1
    obtain ⟨xs, ez, p2⟩ := post.of (post.mono sm1 q)
    exact ⟨S1, σ, ρ1, ds, xs, l1, vVs_len hv, ez, fun J hJ => p2 J S1 H1 R1 (Same.refl _) hJ⟩
theorem rpL1 {K : PySem.W.Frag} {mg : Str → Option Value} {S : Hp} {vs : List V} {i : Int} (h : RpL K mg S vs [.int i]) : vs = [.int i] := by
  cases h with
  | cons h1 h2 => cases h2; cases h1; rfl
theorem rpL2 {K : PySem.W.Frag} {mg : Str → Option Value} {S : Hp} {vs : List V} {i j : Int} (h : RpL K mg S vs [.int i, .int j]) : vs = [.int i, .int j] := by
  cases h with
  | cons h1 h2 => cases h1; rw [rpL1 h2]
theorem rpL3 {K : PySem.W.Frag} {mg : Str → Option Value} {S : Hp} {vs : List V} {i j k : Int} (h : RpL K mg S vs [.int i, .int j, .int k]) : vs = [.int i, .int j, .int k] := by
  cases h with
  | cons h1 h2 => cases h1; rw [rpL2 h2]
theorem rangeD1 {ds : List D} {xs : List D} (h : rangeD ds = some xs) (hl : ds.length = 1) : ∃ n, ds = [.int n] ∧ within n = true ∧ xs = rangeI 0 n.toNat := by
  match ds, hl with
  | [d], _ =>
    unfold rangeD at h
    cases d <;> simp at h
    exact ⟨_, rfl, h.1, h.2.symm⟩
theorem rangeD2 {ds : List D} {xs : List D} (h : rangeD ds = some xs) (hl : ds.length = 2) : ∃ a b, ds = [.int a, .int b] ∧ within a = true ∧ within b = true ∧ xs = rangeI a (b - a).toNat := by
  match ds, hl with
  | [d, d'], _ =>
    unfold rangeD at h
    cases d <;> cases d' <;> simp at h
    exact ⟨_, _, rfl, h.1.1, h.1.2, h.2.symm⟩
theorem rangeD3 {ds : List D} {xs : List D} (h : rangeD ds = some xs) (hl : ds.length = 3) : ∃ a b, ds = [.int a, .int b, .int (-1)] ∧ within a = true ∧ within b = true ∧ xs = rangeS a (-1) (a - b).toNat := by
  match ds, hl with
  | [d, d', d''], _ =>
    unfold rangeD at h
    split at h
    · rename_i z; cases z
    · rename_i z; cases z
    · rename_i a b z
      cases z
      split at h
      · rename_i hw
        rw [Bool.and_eq_true] at hw
        exact ⟨_, _, rfl, hw.1, hw.2, (Option.some.inj h).symm⟩
      · cases h
    · cases h
theorem si_range1 {a : Expr} {A : Mini.E} (hg : Gl X "range") (hm : X.mg "range" = none) (ha : SdVs X T W [a] (vVs (denL F [A]))) (hs : starEach [a] X.env = [(false, eval a X.env)]) : SdI X T W tg (.Call (.Name "range" p) [a] [] pos) (.range [A]) F := by
  refine (pi_range1 hg hm ha hs).imp fun σ H R h => ?_
  obtain ⟨P, la, S, ρ, RR, q⟩ := range_go h
  refine ⟨P, la, S, ρ, RR, q.imp fun vs H1 ⟨S1, σ1, ρ1, ds, xs, rv, el, ed, hJ⟩ => ?_⟩
  obtain ⟨n, rfl, hn, rfl⟩ := rangeD1 ed (by rw [el]; rfl)
  exact ⟨n, rpL1 rv, (within_ok hn).1, (within_ok hn).2, hJ _ (wk_rng 0 n.toNat)⟩
theorem si_range2 {a b : Expr} {A B : Mini.E} (hg : Gl X "range") (hm : X.mg "range" = none) (ha : SdVs X T W [a, b] (vVs (denL F [A, B]))) (hs : starEach [a, b] X.env = [(false, eval a X.env), (false, eval b X.env)]) (hs2 : starEach [b] X.env = [(false, eval b X.env)]) :
    SdI X T W tg (.Call (.Name "range" p) [a, b] [] pos) (.range [A, B]) F := by
  refine (pi_range2 hg hm ha hs hs2).imp fun σ H R h => ?_
  obtain ⟨P, la, S, ρ, RR, q⟩ := range_go h
  refine ⟨P, la, S, ρ, RR, q.imp fun vs H1 ⟨S1, σ1, ρ1, ds, xs, rv, el, ed, hJ⟩ => ?_⟩
  obtain ⟨n, m, rfl, hn, hm, rfl⟩ := rangeD2 ed (by rw [el]; rfl)
  exact ⟨n, m, rpL2 rv, ⟨(within_ok hn).1, (within_ok hn).2, (within_ok hm).1, (within_ok hm).2⟩, hJ _ (wk_rng n (m - n).toNat)⟩
theorem si_range3 {a b c : Expr} {A B C : Mini.E} (hg : Gl X "range") (hm : X.mg "range" = none) (ha : SdVs X T W [a, b, c] (vVs (denL F [A, B, C]))) (hs : starEach [a, b, c] X.env = (false, eval a X.env) :: starEach [b, c] X.env) (hpl : (backTo pos (starEach [b, c] X.env)).any (·.1) = false) :
    SdI X T W tg (.Call (.Name "range" p) [a, b, c] [] pos) (.range [A, B, C]) F := by
  refine (pi_range3 hg hm ha hs hpl).imp fun σ H R h => ?_
  obtain ⟨P, la, S, ρ, RR, q⟩ := range_go h
  refine ⟨P, la, S, ρ, RR, q.imp fun vs H1 ⟨S1, σ1, ρ1, ds, xs, rv, el, ed, hJ⟩ => ?_⟩
  obtain ⟨n, m, rfl, hn, hm, rfl⟩ := rangeD3 ed (by rw [el]; rfl)
  exact ⟨n, m, -1, _, rpL3 rv, RgC.neg (within_ok hn).1 (within_ok hn).2 (within_ok hm).1 (within_ok hm).2, hJ _ (wk_rngC n (-1) (n - m).toNat)⟩
end
end Mini

/- M3i -/
set_option Elab.async false
set_option linter.all false
set_option maxRecDepth 100000
set_option maxHeartbeats 1000000
/-! MINI 3i: comprehensions. -/
namespace Mini
open PySem PySem.Spec PyProof.Rows L2 LamX
/-- nothing is let out -/
abbrev W0 : WX := fun _ _ _ _ => False
theorem wipe_ext {σ σ' : L2.St} {own : List Nat} (h : ∀ j, j ∉ own → σ'[j]? = σ[j]?) (hl : σ'.length = σ.length) : wipe σ' own = wipe σ own := by
  apply List.ext_getElem?
  intro j
  by_cases hj : j ∈ own
  · by_cases hlt : j < σ.length
    · rw [wipe_in hj hlt, wipe_in hj (by rw [hl]; exact hlt)]
    · rw [List.getElem?_eq_none (by rw [wipe_length, hl]; omega), List.getElem?_eq_none (by rw [wipe_length]; omega)]
  · rw [wipe_out hj, wipe_out hj]
    exact h j hj
theorem wipe_wipe (σ : L2.St) (own own2 : List Nat) (h : ∀ j ∈ own2, j ∈ own) : wipe (wipe σ own2) own = wipe σ own :=
  wipe_ext (fun j hj => wipe_out fun z => hj (h j z)) (wipe_length _ _)
section
variable {K : PySem.W.Frag} {mg : Str → Option Value} {T : List (Addr × Str)} {P P' : Hp} {la : Lk} {S S' H H' : Hp} {σ σ' : L2.St} {ρ ρ' : Env}
/-- what is locked stays so -/
theorem held {P₀ S₀ H₀ : Hp} {σ₀ : L2.St} {ρ₀ : Env} {is : List Nat} (R₀ : Rel K mg T P₀ la S₀ H₀ σ₀ ρ₀) (R : Rel K mg T P (lockL la σ₀ ρ₀ is) S H σ ρ) :
    ∀ j ∈ is, ∀ d, mutD ρ₀ j = some d → ∃ a, ρ[j]? = some (Slot.lk d) ∧ σ₀[j]? = some (some (V.ref a)) ∧ σ[j]? = some (some (V.ref a)) := fun j hj d hd => by
  obtain ⟨s, hs, hm⟩ := mutD_some hd
  obtain ⟨a, ea, _, _⟩ := R₀.mu j d hd
  have hl : (lockL la σ₀ ρ₀ is).lk j = some d := by
    show (if j ∈ is then (match ρ₀[j]? with | some (.own d) => some d | some (.ref d) => some d | some (.lk d) => some d | _ => la.lk j) else la.lk j) = some d
    rw [if_pos hj, hs]
    cases s <;> cases hm <;> rfl
  have h1 := R.lks j d hl
  obtain ⟨b, e1, e2⟩ := R.fix j _ h1 rfl
  refine ⟨a, h1, ea, ?_⟩
  have e1 : (match ρ₀[j]? with | some (.own _) => if j ∈ is then adAt σ₀ j else la.ad j | _ => la.ad j) = some b := e1
  rw [hs] at e1
  have go : s.fix = true → la.ad j = some a := fun z => by
    obtain ⟨b, q1, q2⟩ := R₀.fix j s hs z
    rw [ea] at q2
    cases q2
    exact q1
  have eb : b = a := by
    cases s with
    | own d' =>
      have e1 : (if j ∈ is then adAt σ₀ j else la.ad j) = some b := e1
      rw [if_pos hj, adAt_of ea] at e1
      cases e1
      rfl
    | ref d' =>
      have e1 : la.ad j = some b := e1
      rw [go rfl] at e1
      cases e1
      rfl
    | lk d' =>
      have e1 : la.ad j = some b := e1
      rw [go rfl] at e1
      cases e1
      rfl
    | _ => cases hm
  rw [e2, eb]
theorem lockL_own {own is : List Nat} (R : Rel K mg T P la S H σ ρ) (hb : blockOk ρ own = true) : ∀ j ∈ own, (lockL la σ ρ is).lk j = none := fun j hj => by
  show (if j ∈ is then (match ρ[j]? with | some (.own d) => some d | some (.ref d) => some d | some (.lk d) => some d | _ => la.lk j) else la.lk j) = none
  have h1 := block_lk R hb j hj
  have h2 := List.all_eq_true.mp hb j hj
  split
  · split
    · rename_i d e; rw [e] at h2; cases h2
    · rename_i d e; rw [e] at h2; cases h2
    · rename_i d e; rw [e] at h2; cases h2
    · exact h1
  · exact h1
/-- a new list that others hold -/
theorem Rel.newG (R : Rel K mg T P la S H σ ρ) {D : Addr} (n : H D = none) (vs : List V) (ds : List Mini.D) (r : RpL K mg S vs ds) : Rel K mg T (upd P D (.lst vs)) la S (upd H D (.lst vs)) σ ρ :=
  (R.newO n).guard (d := .lst ds) ⟨none_of_same R.sub n, .inl ⟨vs, ds, rfl, upd_same, r⟩⟩ upd_same (mutD_ne R n)
end
/-! tests of a clause -/
abbrev SdTs (X : Cx) (T : List (Addr × Str)) (W : WX) (es : List Expr) (g : Den Bool) : Prop := PTs X es (TR X.K X.mg T W lB g)
section
variable {X : Cx} {T : List (Addr × Str)} {W : WX} {F : Ifc} {pos p : Pos} {c e : Expr} {C : E}
theorem sdts_nil : SdTs X T W [] (vTs [] (denL F [])) := ⟨fun pins s σ H Q I ⟨P, la, S, ρ, R, q⟩ => pts_nil.run pins s σ H Q I (q true S H R (Same.refl _) rfl)⟩
theorem sdts_one (h : SdT X T W c (vT C (denE F C))) : SdTs X T W [c] (vTs [C] (denL F [C])) := by
  refine ⟨fun pins s σ H Q I ⟨P, la, S, ρ, R, q⟩ => (pts_one h).run pins s σ H Q I ⟨P, la, S, ρ, R, ?_⟩⟩
  rw [denL, denL, vTs] at q
  refine (post.bind (R1 := lB) q).imp fun k H1 ⟨S1, ρ1, k1, R1, sm1, l1, p1⟩ => ?_
  have l1 : k = k1 := l1
  subst l1
  cases k with
  | true => exact p1 true S1 H1 R1 (Same.refl _) rfl
  | false => exact p1 false S1 H1 R1 (Same.refl _) rfl
end
theorem calm_ok {α : Type} {r : Res α} {Q : Prop} (h : ∀ a ρ, r = .ok a ρ → Q) (hb : r.calm ≠ .bad) : Q := by
  cases r with
  | ok a ρ => exact h a ρ rfl
  | ex c pl ρ => exact absurd rfl hb
  | bad => exact absurd rfl hb
theorem turns_drop {step : D → Env → Res (List D)} {xs : List D} {i : Nat} {d : D} (e : xs[i]? = some d) {ρ : Env} : turns step (xs.drop i) ρ = (step d ρ).bind fun ys ρ => (turns step (xs.drop (i + 1)) ρ).bind fun zs ρ => .ok (ys ++ zs) ρ := by
  have hl := lt_of_get e
  have : xs.drop i = d :: xs.drop (i + 1) := by
    rw [List.drop_eq_getElem_cons hl]
    congr 1
    rw [List.getElem?_eq_getElem hl] at e
    exact Option.some.inj e
  rw [this]
  rfl
theorem bind_ok {α β : Type} {r : Res α} {f : α → Env → Res β} {b : β} {ρ : Env} (h : r.bind f = .ok b ρ) : ∃ a ρ1, r = .ok a ρ1 ∧ f a ρ1 = .ok b ρ := by
  cases r with
  | ok a ρ1 => exact ⟨a, ρ1, rfl, h⟩
  | ex c pl ρ1 => cases h
  | bad => cases h
theorem of_ok {α : Type} {o : Option α} {b : α} {ρ ρ' : Env} (h : Res.of o ρ = .ok b ρ') : o = some b ∧ ρ' = ρ := by
  cases o with
  | none => cases h
  | some a => cases h; exact ⟨rfl, rfl⟩
section
variable {X : Cx} {T : List (Addr × Str)} {W : WX} {F : Ifc} {pos p : Pos} {elt tg iter : Expr} {ifs : List Expr} {It Elt : E} {Ifs : List E} {t : Tg} {scope : Scope} {own : List (Str × Nat)}
theorem comp_go {σ : L2.St} {H : Hp} {Q : VK} (ht : ∀ j ∈ t.slots, j ∈ own.map (·.2)) (h : TR X.K X.mg T W (lRV X.K X.mg) (denE F (.comp (own.map (·.2)) t It Ifs Elt)) σ H Q) :
    tLc (TRI X.K X.mg T W (walked It) (vIt It (denE F It))) (TGr X.K X.mg T t) (TR X.K X.mg T W0 lB (vTs Ifs (denL F Ifs))) (TR X.K X.mg T W0 (lD X.K X.mg) (vV (denE F Elt))) (own.map (·.2)) σ H Q := by
  generalize own.map (·.2) = own at h ht
  obtain ⟨P, la, S0, ρ0, R0, q⟩ := h
  rw [denE] at q
  refine ⟨P, la, S0, ρ0, R0, (post.bind (R1 := lI X.K X.mg T (walked It)) q).imp fun J H1 ⟨S1, ρ1, xs, R1, sm1, wk, p1⟩ D hD => ?_⟩
  have wk : Wk X.K X.mg T S1 σ ρ1 (walked It) xs J := wk
  by_cases hb : blockOk ρ1 own = true
  case neg =>
    rw [if_neg hb] at p1
    exact p1.elim
  rw [if_pos hb] at p1
  generalize hstep : (item t own Ifs (denL F Ifs) fun ρ => (vV (denE F Elt) ρ).bind fun d ρ => .ok [d] ρ) = step at p1
  cases htu : turns step xs (lock (walked It) ρ1) with
  | bad => rw [htu] at p1; exact p1.elim
  | ex c pl ρ' => rw [htu] at p1; exact p1.elim
  | ok ys ρe =>
  rw [htu] at p1
  have p1 : post X.K X.mg T W (lRV X.K X.mg) P la S1 σ Q (if ys.length ≤ line then .ok (.own (.lst ys)) (unlock ρ1 (walked It) (backE ρ1 ρe own)) else .bad) := p1
  by_cases hz : ys.length ≤ line
  case neg =>
    rw [if_neg hz] at p1
    exact p1.elim
  rw [if_pos hz] at p1
  have hP : P D = none := none_of_same R1.prot hD
  have hlk := lockL_own (is := walked It) R1 hb
  refine ⟨fun i m H => m = xs.length - i ∧ i ≤ xs.length ∧ ∃ S ρi accV acc rest, Rel X.K X.mg T (upd P D (.lst accV)) (lockL la σ ρ1 (walked It)) S H (wipe σ own) (wipeE ρi own) ∧ Same S1 S ∧ RpL X.K X.mg S accV acc ∧
    turns step (xs.drop i) ρi = .ok rest ρe ∧ acc ++ rest = ys, ⟨xs.length, rfl, Nat.zero_le _, S1, lock (walked It) ρ1, [], [], ys, ?_, Same.refl _, .nil, by rw [List.drop_zero]; exact htu, rfl⟩, ?_⟩
  · exact ((R1.lock (walked It)).newG hD [] [] .nil).wipe hlk
  · rintro i m H ⟨rfl, hi, S, ρi, accV, acc, rest, R, sm, ra, ht1, hys⟩
    obtain ⟨w1, w2⟩ := wk _ _ S H _ _ i R sm (held R1 R)
    by_cases hlt : i < xs.length
    case neg =>
      left
      refine ⟨w2 (by omega), ?_⟩
      rw [List.drop_of_length_le (by omega)] at ht1
      cases ht1
      rw [List.append_nil] at hys
      subst hys
      have Rb := R1.back hb R sm
      have Ru : Rel X.K X.mg T (upd P D (.lst accV)) la S H σ (unlock ρ1 (walked It) (backE ρ1 ρe own)) := R1.unlock Rb
      have Hd : H D = some (.lst accV) := R.prot _ _ upd_same
      refine p1 (.ref D) S H (Ru.less (same_new hP)) sm ⟨D, rfl, ⟨R.dj D _ upd_same, .inl ⟨accV, acc, rfl, Hd, ra⟩⟩, hP, fun j hj e => ?_⟩
      obtain ⟨d, hd⟩ := Option.isSome_iff_exists.mp hj
      obtain ⟨a, e1, _, e2⟩ := Ru.mu j d hd
      rw [e] at e1
      cases e1
      rw [upd_same] at e2
      cases e2
    right
    obtain ⟨d, hd⟩ : ∃ d, xs[i]? = some d := ⟨xs[i], List.getElem?_eq_getElem hlt⟩
    obtain ⟨hgo, hy⟩ := w1 d hd
    refine ⟨hgo, fun H' => ∃ S ρi accV acc rest, Rel X.K X.mg T (upd P D (.lst accV)) (lockL la σ ρ1 (walked It)) S H' (wipe σ own) (wipeE ρi own) ∧ Same S1 S ∧ RpL X.K X.mg S accV acc ∧
      turns step (xs.drop (i + 1)) ρi = .ok rest ρe ∧ acc ++ rest = ys, fun H' h' => ⟨xs.length - (i + 1), by omega, rfl, by omega, h'⟩, fun x H' hyl => ?_⟩
    obtain ⟨S', R', sm', rx⟩ := hy x H' hyl
    rw [turns_drop hd] at ht1
    obtain ⟨ys1, ρ2, h1, h2⟩ := bind_ok ht1
    obtain ⟨zs, ρ3, h3, h4⟩ := bind_ok h2
    cases h4
    rw [← hstep] at h1
    unfold item at h1
    obtain ⟨ρa, ρa', ha, hrest⟩ := bind_ok h1
    obtain ⟨ha, rfl⟩ := of_ok ha
    obtain ⟨k, ρb, hk, hel⟩ := bind_ok hrest
    refine ⟨upd P D (.lst accV), _, S', _, d, ρa, R', rx, ha, fun σ2 R2 hσ hσl => ?_⟩
    have hw : wipe σ2 own = wipe σ own := by
      rw [wipe_ext (σ := wipe σ own) (fun j hj => hσ j fun z => hj (ht j z)) hσl]
      exact wipe_wipe σ own own fun _ z => z
    refine ⟨hw, upd P D (.lst accV), _, S', ρa, R2, ?_⟩
    rw [hk]
    intro b S2 H2 R3 sm2 hkb
    have hkb : b = k := hkb
    subst hkb
    cases b with
    | false =>
      rw [if_neg Bool.false_ne_true] at hel
      cases hel
      have Rw := R3.wipe hlk
      rw [hw] at Rw
      exact iteF ⟨S2, ρ2, accV, acc, zs, Rw, (sm.trans sm').trans sm2, rpL_mono (sm'.trans sm2) ra, h3, hys⟩
    | true =>
      rw [if_pos rfl] at hel
      obtain ⟨d', ρc, hd', hel⟩ := bind_ok hel
      cases hel
      refine iteT ⟨upd P D (.lst accV), _, S2, ρb, R3, ?_⟩
      rw [hd']
      intro y S3 H3 R4 sm3 ry
      have Hd : H3 D = some (.lst accV) := R4.prot _ _ upd_same
      have ra3 : RpL X.K X.mg S3 accV acc := rpL_mono ((sm'.trans sm2).trans sm3) ra
      have hlen : accV.length < sizeLine := by
        rw [ra.length, line_eq]
        have : ys.length = acc.length + (zs.length + 1) := by rw [← hys, List.length_append, List.length_append]; simp; omega
        omega
      refine ⟨accV, Hd, hlen, S3, ρ2, accV ++ [y], acc ++ [d'], zs, ?_, ((sm.trans sm').trans sm2).trans sm3, ra3.append (.cons ry .nil), h3, by rw [List.append_assoc]; exact hys⟩
      have Rp := R4.prot_change (o' := .lst (accV ++ [y])) (R4.dj D _ upd_same) ⟨fun ps z => (by cases z), fun c q z => (by unfold CodeO at z; cases z)⟩
      have Rw := Rp.wipe hlk
      rw [hw] at Rw
      exact Rw
/-- the names of a block: their places -/
theorem sd_comp (hc : X.calm = true) (hN : X.N.Nodup) (hi : SdI X T W tg iter It F) (ok : BlkOk X.N X.env.scope scope own) (ht : ∀ j ∈ t.slots, j ∈ own.map (·.2))
    (hg : ∀ (s : Shared) (H : Hp) (C : Addr) (cl : List (Str × Addr)) (fp : List Addr), SdG (X.blk s H scope (compEnvC scope cl C X.env) fp) T tg t) (hts : ∀ (s : Shared) (H : Hp) (C : Addr) (cl : List (Str × Addr)) (fp : List Addr), SdTs (X.blk s H scope (compEnvC scope cl C X.env) fp) T W0 ifs (vTs Ifs (denL F Ifs)))
    (he : ∀ (s : Shared) (H : Hp) (C : Addr) (cl : List (Str × Addr)) (fp : List Addr), SdE (X.blk s H scope (compEnvC scope cl C X.env) fp) T W0 elt (denE F Elt)) (hs : ∀ x, foldedSetIterable iter X.env x = pure x) :
    SdE X T W (.ListComp elt [⟨tg, iter, ifs, 0⟩] scope pos) (denE F (.comp (own.map (·.2)) t It Ifs Elt)) :=
  (pe_lc hc hN hi ok hg hts (fun s H C cl fp => sdV (he s H C cl fp)) hs).imp fun _ _ _ h => comp_go ht h
end
end Mini

/- M3l -/
set_option Elab.async false
set_option linter.all false
set_option maxRecDepth 100000
set_option maxHeartbeats 4000000
/-! MINI 3l: comprehensions with two clauses. -/
namespace Mini
open PySem PySem.Spec PyProof.Rows L2 LamX
section
variable {X : Cx} {T : List (Addr × Str)} {W : WX} {F : Ifc} {pos p : Pos} {elt tg iter tg2 iter2 : Expr} {ifs ifs2 : List Expr} {It It2 Elt : E} {Ifs Ifs2 : List E} {t t2 : Tg} {scope : Scope} {own : List (Str × Nat)} {own2 : List Nat}
theorem comp2_go {σ : L2.St} {H : Hp} {Q : VK} (ht : ∀ j ∈ t.slots, j ∈ own.map (·.2)) (ht2 : ∀ j ∈ t2.slots, j ∈ own2) (ho : ∀ j ∈ own2, j ∈ own.map (·.2)) (h : TR X.K X.mg T W (lRV X.K X.mg) (denE F (.comp2 (own.map (·.2)) own2 t It Ifs t2 It2 Ifs2 Elt)) σ H Q) :
    tLc2 (TRI X.K X.mg T W (walked It) (vIt It (denE F It))) (TGr X.K X.mg T t) (TR X.K X.mg T W0 lB (vTs Ifs (denL F Ifs))) (TRI X.K X.mg T W0 (walked It2) (vIt It2 (denE F It2))) (TGr X.K X.mg T t2) (TR X.K X.mg T W0 lB (vTs Ifs2 (denL F Ifs2)))
      (TR X.K X.mg T W0 (lD X.K X.mg) (vV (denE F Elt))) (own.map (·.2)) own2 σ H Q := by
  generalize own.map (·.2) = own at h ht ho
  obtain ⟨P, la, S0, ρ0, R0, q⟩ := h
  rw [denE] at q
  refine ⟨P, la, S0, ρ0, R0, (post.bind (R1 := lI X.K X.mg T (walked It)) q).imp fun J H1 ⟨S1, ρ1, xs, R1, sm1, wk, p1⟩ D hD => ?_⟩
  have wk : Wk X.K X.mg T S1 σ ρ1 (walked It) xs J := wk
  by_cases hb : blockOk ρ1 own = true
  case neg =>
    rw [if_neg hb] at p1
    exact p1.elim
  rw [if_pos hb] at p1
  generalize hstep2 : (item t2 own2 Ifs2 (denL F Ifs2) fun ρ => (vV (denE F Elt) ρ).bind fun d ρ => .ok [d] ρ) = step2 at p1
  generalize hstep : (item t own Ifs (denL F Ifs) fun ρ₁ => (vIt It2 (denE F It2) ρ₁).bind fun ys ρ₁ => if blockOk ρ₁ own2 then (turns step2 ys (lock (walked It2) ρ₁)).bind fun zs ρ₂ => .ok zs (unlock ρ₁ (walked It2) (wipeE ρ₂ own2)) else .bad) = step at p1
  cases htu : turns step xs (lock (walked It) ρ1) with
  | bad => rw [htu] at p1; exact p1.elim
  | ex c pl ρ' => rw [htu] at p1; exact p1.elim
  | ok ys ρe =>
  rw [htu] at p1
  have p1 : post X.K X.mg T W (lRV X.K X.mg) P la S1 σ Q (if ys.length ≤ line then .ok (.own (.lst ys)) (unlock ρ1 (walked It) (backE ρ1 ρe own)) else .bad) := p1
  by_cases hz : ys.length ≤ line
  case neg =>
    rw [if_neg hz] at p1
    exact p1.elim
  rw [if_pos hz] at p1
  have hP : P D = none := none_of_same R1.prot hD
  have hlk := lockL_own (is := walked It) R1 hb
  refine ⟨fun i m H => m = xs.length - i ∧ i ≤ xs.length ∧ ∃ S ρi accV acc rest, Rel X.K X.mg T (upd P D (.lst accV)) (lockL la σ ρ1 (walked It)) S H (wipe σ own) (wipeE ρi own) ∧ Same S1 S ∧ RpL X.K X.mg S accV acc ∧
    turns step (xs.drop i) ρi = .ok rest ρe ∧ acc ++ rest = ys, ⟨xs.length, rfl, Nat.zero_le _, S1, lock (walked It) ρ1, [], [], ys, ?_, Same.refl _, .nil, by rw [List.drop_zero]; exact htu, rfl⟩, ?_⟩
  · exact ((R1.lock (walked It)).newG hD [] [] .nil).wipe hlk
  · rintro i m H ⟨rfl, hi, S, ρi, accV, acc, rest, R, sm, ra, ht1, hys⟩
    obtain ⟨w1, w2⟩ := wk _ _ S H _ _ i R sm (held R1 R)
    by_cases hlt : i < xs.length
    case neg =>
      left
      refine ⟨w2 (by omega), ?_⟩
      rw [List.drop_of_length_le (by omega)] at ht1
      cases ht1
      rw [List.append_nil] at hys
      subst hys
      have Rb := R1.back hb R sm
      have Ru : Rel X.K X.mg T (upd P D (.lst accV)) la S H σ (unlock ρ1 (walked It) (backE ρ1 ρe own)) := R1.unlock Rb
      have Hd : H D = some (.lst accV) := R.prot _ _ upd_same
      refine p1 (.ref D) S H (Ru.less (same_new hP)) sm ⟨D, rfl, ⟨R.dj D _ upd_same, .inl ⟨accV, acc, rfl, Hd, ra⟩⟩, hP, fun j hj e => ?_⟩
      obtain ⟨d, hd⟩ := Option.isSome_iff_exists.mp hj
      obtain ⟨a, e1, _, e2⟩ := Ru.mu j d hd
      rw [e] at e1
      cases e1
      rw [upd_same] at e2
      cases e2
    right
    obtain ⟨d, hd⟩ : ∃ d, xs[i]? = some d := ⟨xs[i], List.getElem?_eq_getElem hlt⟩
    obtain ⟨hgo, hy⟩ := w1 d hd
    refine ⟨hgo, fun H' => ∃ S ρi accV acc rest, Rel X.K X.mg T (upd P D (.lst accV)) (lockL la σ ρ1 (walked It)) S H' (wipe σ own) (wipeE ρi own) ∧ Same S1 S ∧ RpL X.K X.mg S accV acc ∧
      turns step (xs.drop (i + 1)) ρi = .ok rest ρe ∧ acc ++ rest = ys, fun H' h' => ⟨xs.length - (i + 1), by omega, rfl, by omega, h'⟩, fun x H' hyl => ?_⟩
    obtain ⟨S', R', sm', rx⟩ := hy x H' hyl
    rw [turns_drop hd] at ht1
    obtain ⟨ys1, ρ2, h1, h2⟩ := bind_ok ht1
    obtain ⟨zs, ρ3, h3, h4⟩ := bind_ok h2
    cases h4
    rw [← hstep] at h1
    unfold item at h1
    obtain ⟨ρa, ρa', ha, hrest⟩ := bind_ok h1
    obtain ⟨ha, rfl⟩ := of_ok ha
    obtain ⟨k, ρb, hk, hel⟩ := bind_ok hrest
    refine ⟨upd P D (.lst accV), _, S', _, d, ρa, R', rx, ha, fun σ2 R2 hσ hσl => ?_⟩
    have hw : wipe σ2 own = wipe σ own := by
      rw [wipe_ext (σ := wipe σ own) (fun j hj => hσ j fun z => hj (ht j z)) hσl]
      exact wipe_wipe σ own own fun _ z => z
    refine ⟨hw, upd P D (.lst accV), _, S', ρa, R2, ?_⟩
    rw [hk]
    intro b S2 H2 R3 sm2 hkb
    have hkb : b = k := hkb
    subst hkb
    cases b with
    | false =>
      rw [if_neg Bool.false_ne_true] at hel
      cases hel
      have Rw := R3.wipe hlk
      rw [hw] at Rw
      exact iteF ⟨S2, ρ2, accV, acc, zs, Rw, (sm.trans sm').trans sm2, rpL_mono (sm'.trans sm2) ra, h3, hys⟩
    | true =>
      rw [if_pos rfl] at hel
      obtain ⟨ws, ρ4, hit, hel⟩ := bind_ok hel
      by_cases hb2 : blockOk ρ4 own2 = true
      case neg =>
        rw [if_neg hb2] at hel
        cases hel
      rw [if_pos hb2] at hel
      obtain ⟨zs2, ρ5, htu2, hel⟩ := bind_ok hel
      cases hel
      refine iteT ⟨upd P D (.lst accV), _, S2, ρb, R3, ?_⟩
      rw [hit]
      intro J1 S3 H4 R4 sm3 wk2
      have wk2 : Wk X.K X.mg T S3 σ2 ρ4 (walked It2) ws J1 := wk2
      have hlk2 := lockL_own (is := walked It2) R4 hb2
      refine ⟨fun j k H => k = ws.length - j ∧ j ≤ ws.length ∧ ∃ S ρj accV' acc' rest', Rel X.K X.mg T (upd P D (.lst accV')) (lockL (lockL la σ ρ1 (walked It)) σ2 ρ4 (walked It2)) S H (wipe σ2 own2) (wipeE ρj own2) ∧ Same S3 S ∧ RpL X.K X.mg S accV' acc' ∧
        turns step2 (ws.drop j) ρj = .ok rest' ρ5 ∧ acc' ++ rest' = acc ++ ys1, ⟨ws.length, rfl, Nat.zero_le _, S3, lock (walked It2) ρ4, accV, acc, ys1, (R4.lock (walked It2)).wipe hlk2, Same.refl _, rpL_mono ((sm'.trans sm2).trans sm3) ra, by rw [List.drop_zero]; exact htu2, rfl⟩, ?_⟩
      rintro j k' Hj ⟨rfl, hj, Sj, ρj, accV', acc', rest', Rj, smj, raj, htj, hyj⟩
      obtain ⟨v1, v2⟩ := wk2 _ _ Sj Hj _ _ j Rj smj (held R4 Rj)
      by_cases hlt2 : j < ws.length
      case neg =>
        left
        refine ⟨v2 (by omega), ?_⟩
        rw [List.drop_of_length_le (by omega)] at htj
        cases htj
        rw [List.append_nil] at hyj
        have Ru : Rel X.K X.mg T (upd P D (.lst accV')) (lockL la σ ρ1 (walked It)) Sj Hj (wipe σ2 own2) (unlock ρ4 (walked It2) (wipeE ρ5 own2)) := R4.unlock Rj
        have Rw := Ru.wipe hlk
        rw [wipe_wipe σ2 own own2 ho, hw] at Rw
        exact ⟨Sj, _, accV', acc', zs, Rw, (((sm.trans sm').trans sm2).trans sm3).trans smj, raj, h3, by rw [hyj, List.append_assoc]; exact hys⟩
      right
      obtain ⟨d2, hd2⟩ : ∃ d, ws[j]? = some d := ⟨ws[j], List.getElem?_eq_getElem hlt2⟩
      obtain ⟨hgo2, hy2⟩ := v1 d2 hd2
      refine ⟨hgo2, fun H => ∃ S ρj accV' acc' rest', Rel X.K X.mg T (upd P D (.lst accV')) (lockL (lockL la σ ρ1 (walked It)) σ2 ρ4 (walked It2)) S H (wipe σ2 own2) (wipeE ρj own2) ∧ Same S3 S ∧ RpL X.K X.mg S accV' acc' ∧
        turns step2 (ws.drop (j + 1)) ρj = .ok rest' ρ5 ∧ acc' ++ rest' = acc ++ ys1, fun H' h' => ⟨ws.length - (j + 1), by omega, rfl, by omega, h'⟩, fun x2 H5 hyl2 => ?_⟩
      obtain ⟨S6, R6, sm6, rx2⟩ := hy2 x2 H5 hyl2
      rw [turns_drop hd2] at htj
      obtain ⟨ys3, ρ6, g1, g2⟩ := bind_ok htj
      obtain ⟨zs3, ρ7, g3, g4⟩ := bind_ok g2
      cases g4
      rw [← hstep2] at g1
      unfold item at g1
      obtain ⟨ρc, ρc', hc, hrest2⟩ := bind_ok g1
      obtain ⟨hc, rfl⟩ := of_ok hc
      obtain ⟨k2, ρd, hk2, hel2⟩ := bind_ok hrest2
      refine ⟨upd P D (.lst accV'), _, S6, _, d2, ρc, R6, rx2, hc, fun σ3 R7 hσ3 hσl3 => ?_⟩
      have hw2 : wipe σ3 own2 = wipe σ2 own2 := by
        rw [wipe_ext (σ := wipe σ2 own2) (fun j hj => hσ3 j fun z => hj (ht2 j z)) hσl3]
        exact wipe_wipe σ2 own2 own2 fun _ z => z
      refine ⟨hw2, upd P D (.lst accV'), _, S6, ρc, R7, ?_⟩
      rw [hk2]
      intro b S7 H7 R8 sm7 hkb
      have hkb : b = k2 := hkb
      subst hkb
      cases b with
      | false =>
        rw [if_neg Bool.false_ne_true] at hel2
        cases hel2
        have Rw := R8.wipe hlk2
        rw [hw2] at Rw
        exact iteF ⟨S7, _, accV', acc', zs3, Rw, (smj.trans sm6).trans sm7, rpL_mono (sm6.trans sm7) raj, g3, hyj⟩
      | true =>
        rw [if_pos rfl] at hel2
        obtain ⟨d', ρf, hd', hel2⟩ := bind_ok hel2
        cases hel2
        refine iteT ⟨upd P D (.lst accV'), _, S7, ρd, R8, ?_⟩
        rw [hd']
        intro y S8 H8 R9 sm8 ry
        have Hd : H8 D = some (.lst accV') := R9.prot _ _ upd_same
        have ra3 : RpL X.K X.mg S8 accV' acc' := rpL_mono ((sm6.trans sm7).trans sm8) raj
        have hlen : accV'.length < sizeLine := by
          rw [raj.length, line_eq]
          have e1 : (acc' ++ ([d'] ++ zs3)).length = (acc ++ ys1).length := by rw [hyj]
          have e2 : (acc ++ (ys1 ++ zs)).length = ys.length := by rw [hys]
          simp at e1 e2
          omega
        refine ⟨accV', Hd, hlen, S8, _, accV' ++ [y], acc' ++ [d'], zs3, ?_, ((smj.trans sm6).trans sm7).trans sm8, ra3.append (.cons ry .nil), g3, by rw [List.append_assoc]; exact hyj⟩
        have Rp := R9.prot_change (o' := .lst (accV' ++ [y])) (R9.dj D _ upd_same) ⟨fun ps z => (by cases z), fun c q z => (by unfold CodeO at z; cases z)⟩
        have Rw := Rp.wipe hlk2
        rw [hw2] at Rw
        exact Rw
theorem sd_comp2 (hc : X.calm = true) (hN : X.N.Nodup) (hi : SdI X T W tg iter It F) (ok : BlkOk X.N X.env.scope scope own) (ht : ∀ j ∈ t.slots, j ∈ own.map (·.2)) (ht2 : ∀ j ∈ t2.slots, j ∈ own2) (ho : ∀ j ∈ own2, j ∈ own.map (·.2))
    (hg : ∀ (s : Shared) (H : Hp) (C : Addr) (cl : List (Str × Addr)) (fp : List Addr), SdG (X.blk s H scope (compEnvC scope cl C X.env) fp) T tg t) (hts : ∀ (s : Shared) (H : Hp) (C : Addr) (cl : List (Str × Addr)) (fp : List Addr), SdTs (X.blk s H scope (compEnvC scope cl C X.env) fp) T W0 ifs (vTs Ifs (denL F Ifs)))
    (hi2 : ∀ (s : Shared) (H : Hp) (C : Addr) (cl : List (Str × Addr)) (fp : List Addr), SdI (X.blk s H scope (compEnvC scope cl C X.env) fp) T W0 tg2 iter2 It2 F)
    (hg2 : ∀ (s : Shared) (H : Hp) (C : Addr) (cl : List (Str × Addr)) (fp : List Addr), SdG (X.blk s H scope (compEnvC scope cl C X.env) fp) T tg2 t2) (hts2 : ∀ (s : Shared) (H : Hp) (C : Addr) (cl : List (Str × Addr)) (fp : List Addr), SdTs (X.blk s H scope (compEnvC scope cl C X.env) fp) T W0 ifs2 (vTs Ifs2 (denL F Ifs2)))
    (he : ∀ (s : Shared) (H : Hp) (C : Addr) (cl : List (Str × Addr)) (fp : List Addr), SdE (X.blk s H scope (compEnvC scope cl C X.env) fp) T W0 elt (denE F Elt)) (hs : ∀ x, foldedSetIterable iter X.env x = pure x) (hs2 : ∀ env x, foldedSetIterable iter2 env x = pure x) :
    SdE X T W (.ListComp elt [⟨tg, iter, ifs, 0⟩, ⟨tg2, iter2, ifs2, 0⟩] scope pos) (denE F (.comp2 (own.map (·.2)) own2 t It Ifs t2 It2 Ifs2 Elt)) :=
  (pe_lc2 hc hN hi ok (fun i hi => ho i hi) hg hts hi2 hg2 hts2 (fun s H C cl fp => sdV (he s H C cl fp)) hs hs2).imp fun _ _ _ h => comp2_go ht ht2 ho h
end
end Mini

/- M3j -/
set_option Elab.async false
set_option linter.all false
set_option maxRecDepth 100000
set_option maxHeartbeats 1000000
/-! MINI 3j: calls, seen from both sides. -/
namespace Mini
open PySem PySem.Spec PyProof.Rows L2 LamX
theorem startSlots_len : ∀ {ino : List Bool} {ds : List D}, ino.length = ds.length → (startSlots ino ds).length = ds.length
  | [], [], _ => rfl
  | true :: bs, d :: ds, h => by rw [startSlots, List.length_cons, List.length_cons, startSlots_len (by simpa using h)]
  | false :: bs, d :: ds, h => by rw [startSlots, List.length_cons, List.length_cons, startSlots_len (by simpa using h)]
theorem startSlots_get : ∀ {ino : List Bool} {ds : List D} {p : Nat} {s : Slot}, ino.length = ds.length → (startSlots ino ds)[p]? = some s →
    ∃ b d, ino[p]? = some b ∧ ds[p]? = some d ∧ s = if b then .ref d else .val d
  | [], [], p, s, _, h => by simp [startSlots] at h
  | true :: bs, d :: ds, 0, s, _, h => by
    rw [startSlots] at h
    cases h
    exact ⟨true, d, rfl, rfl, rfl⟩
  | false :: bs, d :: ds, 0, s, _, h => by
    rw [startSlots] at h
    cases h
    exact ⟨false, d, rfl, rfl, rfl⟩
  | true :: bs, d :: ds, p + 1, s, hl, h => by
    rw [startSlots] at h
    obtain ⟨b, d', h1, h2, h3⟩ := startSlots_get (ino := bs) (ds := ds) (p := p) (by simpa using hl) (by simpa using h)
    exact ⟨b, d', by simpa using h1, by simpa using h2, h3⟩
  | false :: bs, d :: ds, p + 1, s, hl, h => by
    rw [startSlots] at h
    obtain ⟨b, d', h1, h2, h3⟩ := startSlots_get (ino := bs) (ds := ds) (p := p) (by simpa using hl) (by simpa using h)
    exact ⟨b, d', by simpa using h1, by simpa using h2, h3⟩
theorem startSlots_at {ino : List Bool} {ds : List D} {p : Nat} {b : Bool} {d : D} (hl : ino.length = ds.length) (h1 : ino[p]? = some b) (h2 : ds[p]? = some d) : (startSlots ino ds)[p]? = some (if b then .ref d else .val d) := by
  have hp := lt_of_get h2
  cases e : (startSlots ino ds)[p]? with
  | none => rw [List.getElem?_eq_none_iff, startSlots_len hl] at e; omega
  | some s =>
    obtain ⟨b', d', e1, e2, e3⟩ := startSlots_get hl e
    rw [h1] at e1; rw [h2] at e2
    cases e1; cases e2
    rw [e3]
theorem putOuts_len : ∀ (ino : List Bool) (ds os : List D), (putOuts ino ds os).length = ds.length
  | true :: bs, d :: ds, o :: os => by rw [putOuts, List.length_cons, List.length_cons, putOuts_len bs ds os]
  | false :: bs, d :: ds, os => by rw [putOuts, List.length_cons, List.length_cons, putOuts_len bs ds os]
  | [], ds, os => by simp [putOuts]
  | true :: bs, [], os => by simp [putOuts]
  | false :: bs, [], os => by simp [putOuts]
  | true :: bs, d :: ds, [] => by simp [putOuts]
def Lent (os : List Opd) (ino : List Bool) (j p : Nat) : Prop := os[p]? = some (.sl j) ∧ ino[p]? = some true
theorem lentOk_get {ρ : Env} : ∀ {os : List Opd} {ino : List Bool} {seen : List Nat}, lentOk ρ os ino seen = true → os.length = ino.length ∧
    (∀ (p : Nat) (b : Bool), ino[p]? = some b → (b = true ∧ ∃ j, os[p]? = some (Opd.sl j) ∧ (owned j ρ).isSome = true ∧ j ∉ seen) ∨ (b = false ∧ ∃ d, os[p]? = some (Opd.v d))) ∧ ∀ (p q j : Nat), Lent os ino j p → Lent os ino j q → p = q
  | [], [], seen, _ => ⟨rfl, fun p b h => by simp at h, fun p q j h => by simp [Lent] at h⟩
  | [], true :: bs, seen, h => by simp [lentOk] at h
  | [], false :: bs, seen, h => by simp [lentOk] at h
  | .sl i :: os, [], seen, h => by simp [lentOk] at h
  | .v d :: os, [], seen, h => by simp [lentOk] at h
  | .t d :: os, [], seen, h => by simp [lentOk] at h
  | .t d :: os, true :: bs, seen, h => by simp [lentOk] at h
  | .t d :: os, false :: bs, seen, h => by simp [lentOk] at h
  | .sl i :: os, false :: bs, seen, h => by simp [lentOk] at h
  | .v d :: os, true :: bs, seen, h => by simp [lentOk] at h
  | .v d :: os, false :: bs, seen, h => by
    unfold lentOk at h
    obtain ⟨h1, h2, h3⟩ := lentOk_get h
    refine ⟨by simp [h1], fun p b hb => ?_, fun p q j hp hq => ?_⟩
    · cases p with
      | zero => simp at hb; subst hb; exact .inr ⟨rfl, d, rfl⟩
      | succ p => simpa using h2 p b (by simpa using hb)
    · cases p with
      | zero => simp [Lent] at hp
      | succ p =>
        cases q with
        | zero => simp [Lent] at hq
        | succ q => rw [h3 p q j (by simpa [Lent] using hp) (by simpa [Lent] using hq)]
  | .sl i :: os, true :: bs, seen, h => by
    unfold lentOk at h
    simp only [Bool.and_eq_true, Bool.not_eq_true'] at h
    obtain ⟨⟨ho, hs⟩, h⟩ := h
    have hs : i ∉ seen := fun z => by
      rw [List.contains_iff_mem.mpr z] at hs
      cases hs
    obtain ⟨h1, h2, h3⟩ := lentOk_get h
    have later : ∀ q, ¬ Lent os bs i q := fun q hq => by
      rcases h2 q true hq.2 with ⟨_, j, e1, _, e3⟩ | ⟨z, _⟩
      · rw [hq.1] at e1
        cases e1
        exact e3 List.mem_cons_self
      · cases z
    refine ⟨by simp [h1], fun p b hb => ?_, fun p q j hp hq => ?_⟩
    · cases p with
      | zero => simp at hb; subst hb; exact .inl ⟨rfl, i, rfl, ho, hs⟩
      | succ p =>
        rcases h2 p b (by simpa using hb) with ⟨e, j, e1, e2, e3⟩ | z
        · exact .inl ⟨e, j, by simpa using e1, e2, fun m => e3 (List.mem_cons_of_mem _ m)⟩
        · exact .inr (by simpa using z)
    · cases p with
      | zero =>
        cases q with
        | zero => rfl
        | succ q =>
          simp [Lent] at hp
          subst hp
          exact absurd (show Lent os bs i q by simpa [Lent] using hq) (later q)
      | succ p =>
        cases q with
        | zero =>
          simp [Lent] at hq
          subst hq
          exact absurd (show Lent os bs i p by simpa [Lent] using hp) (later p)
        | succ q => rw [h3 p q j (by simpa [Lent] using hp) (by simpa [Lent] using hq)]
/-- the slot with new contents -/
def Slot.fill (o : D) : Slot → Slot
  | .own _ => .own o
  | .ref _ => .ref o
  | s => s
theorem change_get {i : Nat} {d : D} {ρ ρ' : Env} (h : change i d ρ = some ρ') : (∃ s, ρ[i]? = some s ∧ ρ'[i]? = some (s.fill d) ∧ ((∃ x, s = .own x) ∨ ∃ x, s = .ref x)) ∧ (∀ j, j ≠ i → ρ'[j]? = ρ[j]?) ∧ ρ'.length = ρ.length := by
  unfold change at h
  split at h
  · rename_i x e
    cases h
    exact ⟨⟨_, e, List.getElem?_set_self (lt_of_get e), .inl ⟨x, rfl⟩⟩, fun j hj => List.getElem?_set_ne (Ne.symm hj), by rw [List.length_set]⟩
  · rename_i x e
    cases h
    exact ⟨⟨_, e, List.getElem?_set_self (lt_of_get e), .inr ⟨x, rfl⟩⟩, fun j hj => List.getElem?_set_ne (Ne.symm hj), by rw [List.length_set]⟩
  · cases h
theorem giveBack_get : ∀ {os : List Opd} {ino : List Bool} {outs ds : List D} {ρ ρ' : Env}, giveBack os ino outs ρ = some ρ' → ds.length = ino.length → (∀ (p q j : Nat), Lent os ino j p → Lent os ino j q → p = q) →
    ρ'.length = ρ.length ∧ (∀ j, (∀ p, ¬ Lent os ino j p) → ρ'[j]? = ρ[j]?) ∧ ∀ j p, Lent os ino j p → ∃ s o, ρ[j]? = some s ∧ (putOuts ino ds outs)[p]? = some o ∧ ρ'[j]? = some (s.fill o) ∧ ((∃ x, s = .own x) ∨ ∃ x, s = .ref x)
  | [], [], [], ds, ρ, ρ', h, _, _ => by
    unfold giveBack at h
    cases h
    exact ⟨rfl, fun _ _ => rfl, fun j p hp => by simp [Lent] at hp⟩
  | [], [], _ :: _, ds, ρ, ρ', h, _, _ => by simp [giveBack] at h
  | [], true :: _, outs, ds, ρ, ρ', h, _, _ => by simp [giveBack] at h
  | [], false :: _, outs, ds, ρ, ρ', h, _, _ => by simp [giveBack] at h
  | .sl i :: os, [], outs, ds, ρ, ρ', h, _, _ => by simp [giveBack] at h
  | .v i :: os, [], outs, ds, ρ, ρ', h, _, _ => by simp [giveBack] at h
  | .t i :: os, [], outs, ds, ρ, ρ', h, _, _ => by simp [giveBack] at h
  | .v i :: os, true :: _, outs, ds, ρ, ρ', h, _, _ => by simp [giveBack] at h
  | .t i :: os, true :: _, outs, ds, ρ, ρ', h, _, _ => by simp [giveBack] at h
  | .sl i :: os, true :: _, [], ds, ρ, ρ', h, _, _ => by simp [giveBack] at h
  | _ :: _, true :: _, _ :: _, [], _, _, _, hl, _ => by simp at hl
  | _ :: _, false :: _, _, [], _, _, _, hl, _ => by simp at hl
  | o :: os, false :: bs, outs, d :: ds, ρ, ρ', h, hl, hd => by
    have h : giveBack os bs outs ρ = some ρ' := by cases o <;> exact h
    obtain ⟨h1, h2, h3⟩ := giveBack_get (ds := ds) h (by simpa using hl) fun p q j hp hq => by simpa using hd (p + 1) (q + 1) j (by simpa [Lent] using hp) (by simpa [Lent] using hq)
    refine ⟨h1, fun j hj => h2 j fun p hp => hj (p + 1) (by simpa [Lent] using hp), fun j p hp => ?_⟩
    cases p with
    | zero => simp [Lent] at hp
    | succ p =>
      obtain ⟨s, o', e1, e2, e3⟩ := h3 j p (by simpa [Lent] using hp)
      exact ⟨s, o', e1, by rw [putOuts]; simpa using e2, e3⟩
  | .sl i :: os, true :: bs, x :: outs, d :: ds, ρ, ρ', h, hl, hd => by
    unfold giveBack at h
    cases hc : change i x ρ with
    | none => rw [hc] at h; cases h
    | some ρ1 =>
      rw [hc] at h
      have h : giveBack os bs outs ρ1 = some ρ' := h
      obtain ⟨⟨s, c1, c2, c3⟩, c4, c5⟩ := change_get hc
      obtain ⟨h1, h2, h3⟩ := giveBack_get (ds := ds) h (by simpa using hl) fun p q j hp hq => by simpa using hd (p + 1) (q + 1) j (by simpa [Lent] using hp) (by simpa [Lent] using hq)
      have hi : ∀ p, ¬ Lent os bs i p := fun p hp => by
        have := hd 0 (p + 1) i (by simp [Lent]) (by simpa [Lent] using hp)
        cases this
      refine ⟨by rw [h1, c5], fun j hj => ?_, fun j p hp => ?_⟩
      · have ne : j ≠ i := fun z => hj 0 (by subst z; simp [Lent])
        rw [h2 j fun p hp => hj (p + 1) (by simpa [Lent] using hp)]
        exact c4 j ne
      · cases p with
        | zero =>
          simp [Lent] at hp
          subst hp
          exact ⟨s, x, c1, by rw [putOuts]; rfl, by rw [h2 i hi]; exact c2, c3⟩
        | succ p =>
          have hp' : Lent os bs j p := by simpa [Lent] using hp
          have ne : j ≠ i := fun z => by subst z; exact hi p hp'
          obtain ⟨s', o', e1, e2, e3⟩ := h3 j p hp'
          rw [c4 j ne] at e1
          exact ⟨s', o', e1, by rw [putOuts]; simpa using e2, e3⟩
theorem fetchAll_get {ρ : Env} : ∀ {os : List Opd} {ds : List D}, fetchAll ρ os = some ds → os.length = ds.length ∧ ∀ (p : Nat) (o : Opd), os[p]? = some o → ∃ d, ds[p]? = some d ∧ fetch ρ o = some d
  | [], ds, h => by cases h; exact ⟨rfl, fun p o h => by simp at h⟩
  | o :: os, ds, h => by
    unfold fetchAll at h
    cases e1 : fetch ρ o with
    | none => rw [e1] at h; cases h
    | some d =>
      rw [e1] at h
      cases e2 : fetchAll ρ os with
      | none => rw [e2] at h; cases h
      | some ds' =>
        rw [e2] at h
        cases h
        obtain ⟨h1, h2⟩ := fetchAll_get e2
        refine ⟨by simp [h1], fun p o' hp => ?_⟩
        cases p with
        | zero => simp at hp; subst hp; exact ⟨d, rfl, e1⟩
        | succ p => simpa using h2 p o' (by simpa using hp)
theorem paired_get {α β : Type} {R : α → β → Prop} : ∀ {xs : List α} {ys : List β}, Paired R xs ys → xs.length = ys.length ∧ ∀ (p : Nat) (x : α), xs[p]? = some x → ∃ y, ys[p]? = some y ∧ R x y
  | _, _, .nil => ⟨rfl, fun p o h => by simp at h⟩
  | _, _, .cons h r => by
    obtain ⟨h1, h2⟩ := paired_get r
    refine ⟨by simp [h1], fun p x hp => ?_⟩
    cases p with
    | zero => simp at hp; subst hp; exact ⟨_, rfl, h⟩
    | succ p => simpa using h2 p x (by simpa using hp)
section
variable {K : PySem.W.Frag} {mg : Str → Option Value} {T : List (Addr × Str)} {P P' : Hp} {la : Lk} {S S' H H' : Hp} {σ σ' : L2.St} {ρ ρ' : Env}
/-- a name's own thing that isn't lent -/
def Kept (σ : L2.St) (ρ : Env) (os : List Opd) (ino : List Bool) (a : Addr) : Prop := ∃ j, (mutD ρ j).isSome = true ∧ σ[j]? = some (some (V.ref a)) ∧ ∀ p, ¬ Lent os ino j p
open Classical in
noncomputable def protC (P H : Hp) (σ : L2.St) (ρ : Env) (os : List Opd) (ino : List Bool) : Hp := fun a => if Kept σ ρ os ino a then H a else P a
def laC (vs : List V) : Lk := ⟨adAt (vs.map some), fun _ => none⟩
theorem protC_in {os : List Opd} {ino : List Bool} {a : Addr} (h : Kept σ ρ os ino a) : protC P H σ ρ os ino a = H a := by unfold protC; rw [if_pos h]
theorem protC_out {os : List Opd} {ino : List Bool} {a : Addr} (h : ¬ Kept σ ρ os ino a) : protC P H σ ρ os ino a = P a := by unfold protC; rw [if_neg h]
theorem Kept.own (R : Rel K mg T P la S H σ ρ) {os : List Opd} {ino : List Bool} {a : Addr} (h : Kept σ ρ os ino a) : ∃ d, OwC K mg S H a d ∧ P a = none := by
  obtain ⟨j, h1, h2, _⟩ := h
  obtain ⟨d, hd⟩ := Option.isSome_iff_exists.mp h1
  obtain ⟨b, e1, w, hP⟩ := R.mu j d hd
  rw [h2] at e1
  cases e1
  exact ⟨d, w, hP⟩
theorem protC_of (R : Rel K mg T P la S H σ ρ) {os : List Opd} {ino : List Bool} {a : Addr} {o : HO} (h : P a = some o) : protC P H σ ρ os ino a = some o := by
  rw [protC_out fun z => by obtain ⟨d, _, e⟩ := z.own R; rw [e] at h; cases h]
  exact h
structure Args (K : PySem.W.Frag) (mg : Str → Option Value) (P S H : Hp) (σ : L2.St) (ρ : Env) (os : List Opd) (ino : List Bool) (vs : List V) (ds : List D) : Prop where
  ho : Paired (lO K mg P S H σ ρ) os vs
  hl : lentOk ρ os ino [] = true
  hf : fetchAll ρ os = some ds
theorem Args.lent {os : List Opd} {ino : List Bool} {vs : List V} {ds : List D} (A : Args K mg P S H σ ρ os ino vs ds) {p : Nat} (h : ino[p]? = some true) (R : Rel K mg T P la S H σ ρ) :
    ∃ j a d, Lent os ino j p ∧ owned j ρ = some d ∧ ds[p]? = some d ∧ vs[p]? = some (.ref a) ∧ σ[j]? = some (some (V.ref a)) ∧ OwC K mg S H a d ∧ P a = none := by
  obtain ⟨h1, h2, h3⟩ := lentOk_get A.hl
  rcases h2 p true h with ⟨_, j, e1, e2, _⟩ | ⟨z, _⟩
  · obtain ⟨d, hd⟩ := Option.isSome_iff_exists.mp e2
    obtain ⟨a, ea, w, hP⟩ := R.mu j d (owned_mut hd)
    obtain ⟨v, ev, hv⟩ := (paired_get A.ho).2 p _ e1
    have hv : σ[j]? = some (some v) := hv
    rw [ea] at hv
    cases hv
    obtain ⟨d', ed, hfd⟩ := (fetchAll_get A.hf).2 p _ e1
    have : look j ρ = some d := by
      unfold owned at hd
      unfold look
      split at hd
      · rename_i e; cases hd; rw [e]; rfl
      · rename_i e; cases hd; rw [e]; rfl
      · cases hd
    have hfd : look j ρ = some d' := hfd
    rw [this] at hfd
    cases hfd
    exact ⟨j, a, d, ⟨e1, h⟩, hd, ed, ev, ea, w, hP⟩
  · cases z
theorem Args.given {os : List Opd} {ino : List Bool} {vs : List V} {ds : List D} (A : Args K mg P S H σ ρ os ino vs ds) {p : Nat} (h : ino[p]? = some false) : ∃ d v, ds[p]? = some d ∧ vs[p]? = some v ∧ Rp K mg S v d := by
  obtain ⟨h1, h2, h3⟩ := lentOk_get A.hl
  rcases h2 p false h with ⟨z, _⟩ | ⟨_, d, e1⟩
  · cases z
  · obtain ⟨v, ev, hv⟩ := (paired_get A.ho).2 p _ e1
    obtain ⟨d', ed, hfd⟩ := (fetchAll_get A.hf).2 p _ e1
    cases hfd
    exact ⟨d, v, ed, ev, hv⟩
/-- into the callee -/
theorem Rel.enter (R : Rel K mg T P la S H σ ρ) {os : List Opd} {ino : List Bool} {vs : List V} {ds : List D} (A : Args K mg P S H σ ρ os ino vs ds) :
    Rel K mg T (protC P H σ ρ os ino) (laC vs) S H (vs.map some) (startSlots ino ds) ∧ ino.length = ds.length ∧ vs.length = ds.length := by
  obtain ⟨l1, h2, h3⟩ := lentOk_get A.hl
  have l2 := (fetchAll_get A.hf).1
  have l3 := (paired_get A.ho).1
  have hl : ino.length = ds.length := by omega
  have vl : vs.length = ds.length := by omega
  have mset : ∀ {p : Nat} {d : D}, mutD (startSlots ino ds) p = some d → ino[p]? = some true ∧ ds[p]? = some d := fun {p d} h => by
    obtain ⟨s, e1, e2⟩ := mutD_some h
    obtain ⟨b, d', q1, q2, rfl⟩ := startSlots_get hl e1
    cases b with
    | true => cases e2; exact ⟨q1, q2⟩
    | false => cases e2
  have sget : ∀ {p : Nat} {v : V}, vs[p]? = some v → (vs.map some)[p]? = some (some v) := fun {p v} h => by rw [List.getElem?_map, h]; rfl
  refine ⟨⟨R.sub, fun a o h => ?_, fun a o h => ?_, ⟨R.nt.1, fun b ps z => ?_⟩, R.tabs, fun q hq => ⟨(R.tabN q hq).1, ?_⟩, by rw [List.length_map, startSlots_len hl]; exact vl, fun p d h => ?_, fun p d h => ?_, fun p s h hf => ?_, fun p d h => (by cases h), fun p q b hpq h1 h2' h3' => ?_⟩, hl, vl⟩
  · by_cases k : Kept σ ρ os ino a
    · rw [protC_in k] at h; exact h
    · rw [protC_out k] at h; exact R.prot _ _ h
  · by_cases k : Kept σ ρ os ino a
    · obtain ⟨d, w, _⟩ := k.own R; exact w.1
    · rw [protC_out k] at h; exact R.dj _ _ h
  · by_cases k : Kept σ ρ os ino b
    · obtain ⟨d, w, _⟩ := k.own R
      rw [protC_in k] at z
      exact (Tabs.ne_own w _ z).1 ps rfl
    · rw [protC_out k] at z; exact R.nt.2 b ps z
  · obtain ⟨ps, e, _⟩ := R.tabs q hq
    rw [protC_out fun k => by
      obtain ⟨d, w, _⟩ := k.own R
      exact (Tabs.ne_own w _ e).1 _ rfl]
    exact (R.tabN q hq).2
  · obtain ⟨b, d', q1, q2, e⟩ := startSlots_get hl h
    cases b with
    | true => cases e
    | false =>
      cases e
      obtain ⟨d', v, e1, e2, r⟩ := A.given q1
      rw [q2] at e1
      cases e1
      exact ⟨v, sget e2, r⟩
  · obtain ⟨q1, q2⟩ := mset h
    obtain ⟨j, a, d', hL, ho, e1, e2, e3, w, hP⟩ := A.lent q1 R
    rw [q2] at e1
    cases e1
    refine ⟨a, sget e2, w, ?_⟩
    have nk : ¬ Kept σ ρ os ino a := fun ⟨k, k1, k2, k3⟩ => by
      by_cases hk : k = j
      · subst hk; exact k3 p hL
      · exact R.inj k j a hk k1 (by rw [owned_mut ho]; rfl) k2 e3
    rw [protC_out nk]
    exact hP
  · obtain ⟨b, d', q1, q2, e⟩ := startSlots_get hl h
    cases b with
    | false => rw [e] at hf; cases hf
    | true =>
      obtain ⟨j, a, d', hL, ho, e1, e2, e3, w, hP⟩ := A.lent q1 R
      exact ⟨a, adAt_of (sget e2), sget e2⟩
  · obtain ⟨d1, h1⟩ := Option.isSome_iff_exists.mp h1
    obtain ⟨d2, h2'⟩ := Option.isSome_iff_exists.mp h2'
    obtain ⟨q1, _⟩ := mset h1
    obtain ⟨q2, _⟩ := mset h2'
    obtain ⟨j, a, _, hL, ho, _, e2, e3, w, hP⟩ := A.lent q1 R
    obtain ⟨k, a', _, hL', ho', _, e2', e3', w', hP'⟩ := A.lent q2 R
    rw [sget e2] at h3'
    cases h3'
    rw [sget e2']
    intro z
    cases z
    by_cases hjk : j = k
    · subst hjk
      exact hpq (h3 p q j hL hL')
    · exact R.inj j k b hjk (by rw [owned_mut ho]; rfl) (by rw [owned_mut ho']; rfl) e3 e3'
/-- back from the callee -/
theorem Rel.leave (R : Rel K mg T P la S H σ ρ) {os : List Opd} {ino : List Bool} {vs : List V} {ds outs : List D} (A : Args K mg P S H σ ρ os ino vs ds)
    (R' : Rel K mg T (protC P H σ ρ os ino) (laC vs) S' H' (vs.map some) (startSlots ino (putOuts ino ds outs))) (sm : Same S S') (e : giveBack os ino outs ρ = some ρ') :
    Rel K mg T P la S' H' σ ρ' ∧ ∀ r v, lRV K mg (protC P H σ ρ os ino) S' H' (vs.map some) (startSlots ino (putOuts ino ds outs)) r v → lRV K mg P S' H' σ ρ' r v := by
  obtain ⟨l1, h2, h3⟩ := lentOk_get A.hl
  have l2 := (fetchAll_get A.hf).1
  have hl : ino.length = ds.length := by omega
  have hl' : ino.length = (putOuts ino ds outs).length := by rw [putOuts_len]; exact hl
  obtain ⟨g1, g2, g3⟩ := giveBack_get (ds := ds) e hl.symm h3
  have sget : ∀ {p : Nat} {v : V}, vs[p]? = some v → (vs.map some)[p]? = some (some v) := fun {p v} h => by rw [List.getElem?_map, h]; rfl
  -- a name: lent, or as it was
  have split : ∀ j, (∃ p s o a, Lent os ino j p ∧ ρ[j]? = some s ∧ ρ'[j]? = some (s.fill o) ∧ ((∃ x, s = .own x) ∨ ∃ x, s = .ref x) ∧ mutD (startSlots ino (putOuts ino ds outs)) p = some o ∧ σ[j]? = some (some (V.ref a)) ∧ (vs.map some)[p]? = some (some (V.ref a)) ∧ P a = none) ∨ ((∀ p, ¬ Lent os ino j p) ∧ ρ'[j]? = ρ[j]?) := fun j => by
    by_cases hj : ∃ p, Lent os ino j p
    · obtain ⟨p, hp⟩ := hj
      obtain ⟨s, o, e1, e2, e3, e4⟩ := g3 j p hp
      obtain ⟨k, a, d, hL, ho, q1, q2, q3, w, hP⟩ := A.lent hp.2 R
      have : k = j := by
        have := hL.1
        rw [hp.1] at this
        cases this
        rfl
      subst this
      refine .inl ⟨p, s, o, a, hp, e1, e3, e4, ?_, q3, sget q2, hP⟩
      rw [mutD_of (startSlots_at hl' hp.2 e2)]
      rfl
    · exact .inr ⟨fun p hp => hj ⟨p, hp⟩, g2 j fun p hp => hj ⟨p, hp⟩⟩
  have mI : ∀ j, (mutD ρ' j).isSome = true → (mutD ρ j).isSome = true := fun j h => by
    rcases split j with ⟨p, s, o, a, _, e1, e2, e3, _⟩ | ⟨_, e1⟩
    · rw [mutD_of e1]
      rcases e3 with ⟨x, rfl⟩ | ⟨x, rfl⟩ <;> rfl
    · rw [mutD_eq e1] at h; exact h
  have mu' : ∀ j d, mutD ρ' j = some d → ∃ a, σ[j]? = some (some (V.ref a)) ∧ OwC K mg S' H' a d ∧ P a = none ∧ ((protC P H σ ρ os ino a).isSome = true ∨ ∃ p, (mutD (startSlots ino (putOuts ino ds outs)) p).isSome = true ∧ (vs.map some)[p]? = some (some (V.ref a))) := fun j d h => by
    rcases split j with ⟨p, s, o, a, _, e1, e2, e3, e4, e5, e6, e7⟩ | ⟨hn, e1⟩
    · have : d = o := by
        rw [mutD_of e2] at h
        rcases e3 with ⟨x, rfl⟩ | ⟨x, rfl⟩ <;> (cases h; rfl)
      subst this
      obtain ⟨b, q1, w, q2⟩ := R'.mu p d e4
      rw [e6] at q1
      cases q1
      exact ⟨a, e5, w, e7, .inr ⟨p, by rw [e4]; rfl, e6⟩⟩
    · rw [mutD_eq e1] at h
      obtain ⟨a, q1, w, q2⟩ := R.mu j d h
      have k : Kept σ ρ os ino a := ⟨j, by rw [h]; rfl, q1, hn⟩
      obtain ⟨o, ho, _⟩ := w.obj
      have hp : protC P H σ ρ os ino a = some o := by rw [protC_in k]; exact ho
      exact ⟨a, q1, w.mono sm (R'.dj a o hp) (fun x hx => by rw [ho] at hx; cases hx; exact R'.prot a o hp), q2, .inl (by rw [hp]; rfl)⟩
  refine ⟨⟨R'.sub, fun a o h => R'.prot a o (protC_of R h), fun a o h => R'.dj a o (protC_of R h), ⟨R'.nt.1, R.nt.2⟩, R'.tabs, fun q hq => ⟨(R'.tabN q hq).1, (R.tabN q hq).2⟩, by rw [g1]; exact R.len, fun j d h => ?_, fun j d h => ?_, fun j s h hf => ?_, fun j d h => ?_, fun j k b hjk q1 q2 q3 => R.inj j k b hjk (mI j q1) (mI k q2) q3⟩, fun r v l => ?_⟩
  · rcases split j with ⟨p, s, o, a, _, e1, e2, e3, _⟩ | ⟨_, e1⟩
    · rw [e2] at h
      rcases e3 with ⟨x, rfl⟩ | ⟨x, rfl⟩ <;> cases h
    · rw [e1] at h
      obtain ⟨v, q1, r⟩ := R.val j d h
      exact ⟨v, q1, r.mono sm⟩
  · obtain ⟨a, q1, q2, q3, _⟩ := mu' j d h
    exact ⟨a, q1, q2, q3⟩
  · rcases split j with ⟨p, s', o, a, _, e1, e2, e3, _⟩ | ⟨_, e1⟩
    · rw [e2] at h
      refine R.fix j s' e1 ?_
      rcases e3 with ⟨x, rfl⟩ | ⟨x, rfl⟩ <;> (cases h; exact hf)
    · rw [e1] at h
      exact R.fix j s h hf
  · have hk := R.lks j d h
    rcases split j with ⟨p, s', o, a, _, e1, e2, e3, _⟩ | ⟨_, e1⟩
    · rw [hk] at e1
      rcases e3 with ⟨x, rfl⟩ | ⟨x, rfl⟩ <;> cases e1
    · rw [e1]; exact hk
  · cases r with
    | val d => exact l
    | own d =>
      obtain ⟨a, rfl, w, hP, hn⟩ := l
      refine ⟨a, rfl, w, ?_, fun j hj e => ?_⟩
      · cases z : P a with
        | none => rfl
        | some o => rw [protC_of R z] at hP; cases hP
      · obtain ⟨d', hd⟩ := Option.isSome_iff_exists.mp hj
        obtain ⟨b, q1, _, _, q⟩ := mu' j d' hd
        rw [e] at q1
        cases q1
        rcases q with q | ⟨p, q1, q2⟩
        · rw [hP] at q; cases q
        · exact hn p q1 q2
end
end Mini

/- M3k -/
set_option Elab.async false
set_option linter.all false
set_option maxRecDepth 100000
set_option maxHeartbeats 1000000
/-! MINI 3k: calls. -/
namespace Mini
open PySem PySem.Spec PyProof.Rows L2 LamX
abbrev wx (E : XK) : WX := fun cls d _ H => E cls d H
/-- what is wanted behind a call -/
def postC (K : PySem.W.Frag) (mg : Str → Option Value) (T : List (Addr × Str)) (P : Hp) (la : Lk) (S : Hp) (vs : List V) (ino : List Bool) (ds : List D) (Q : VK) (E : XK) : CRes → Prop
  | .ok r outs => ∀ v S' H', Rel K mg T P la S' H' (vs.map some) (startSlots ino (putOuts ino ds outs)) → Same S S' → lRV K mg P S' H' (vs.map some) (startSlots ino (putOuts ino ds outs)) r v → Q v H'
  | .ex c pl outs => ∀ cls d S' H', Rel K mg T P la S' H' (vs.map some) (startSlots ino (putOuts ino ds outs)) → Same S S' → ExcV K mg S' H' cls d c pl → E cls d H'
  | .bad => False
/-- a def's promise, by what it is told to compute -/
def spM (K : PySem.W.Frag) (mg : Str → Option Value) (T : List (Addr × Str)) (n : Nat) (ino : List Bool) (call : List D → CRes) : Sp := fun vs H Q E => ∃ P la S ds, Rel K mg T P la S H (vs.map some) (startSlots ino ds) ∧ ino.length = ds.length ∧ vs.length = ds.length ∧ ds.length = n ∧
  la.lk = (fun _ => none) ∧ postC K mg T P la S vs ino ds Q E (call ds)
/-! ### arguments in the parameters' order -/
theorem paired_lookup {α β : Type} {R : α → β → Prop} {x : Str} : ∀ {ks : List Str} {ws : List α} {zs : List β}, Paired R ws zs → ((ks.zip ws).lookup x = none ∧ (ks.zip zs).lookup x = none) ∨ ∃ w z, (ks.zip ws).lookup x = some w ∧ (ks.zip zs).lookup x = some z ∧ R w z
  | [], _, _, _ => by simp
  | k :: ks, _, _, .nil => by simp
  | k :: ks, _, _, .cons h r => by
    simp only [List.zip_cons_cons, List.lookup_cons]
    cases x == k with
    | true => exact .inr ⟨_, _, rfl, rfl, h⟩
    | false => exact paired_lookup r
theorem paired_at {α β : Type} {R : α → β → Prop} : ∀ {xs : List α} {ys : List β}, Paired R xs ys → ∀ (i : Nat), (xs[i]? = none ∧ ys[i]? = none) ∨ ∃ a b, xs[i]? = some a ∧ ys[i]? = some b ∧ R a b
  | _, _, .nil, i => by simp
  | _, _, .cons h r, 0 => .inr ⟨_, _, rfl, rfl, h⟩
  | _, _, .cons h r, i + 1 => by simpa using paired_at r i
theorem paired_len {α β : Type} {R : α → β → Prop} {xs : List α} {ys : List β} (h : Paired R xs ys) : xs.length = ys.length := (paired_get h).1
theorem paired_app {α β : Type} {R : α → β → Prop} : ∀ {xs xs' : List α} {ys ys' : List β}, Paired R xs ys → Paired R xs' ys' → Paired R (xs ++ xs') (ys ++ ys')
  | _, _, _, _, .nil, q => q
  | _, _, _, _, .cons h r, q => .cons h (paired_app r q)
theorem arrange_rel {α β : Type} {R : α → β → Prop} {ps ks : List Str} {dα pα wα xs : List α} {dβ pβ wβ : List β} (hd : Paired R dα dβ) (hp : Paired R pα pβ) (hw : Paired R wα wβ) (h : arrange ps dα pα ks wα = some xs) : ∃ ys, arrange ps dβ pβ ks wβ = some ys ∧ Paired R xs ys := by
  unfold arrange at h ⊢
  dsimp only at h ⊢
  rw [← paired_len hp, ← paired_len hd]
  split at h
  · rename_i hc
    rw [if_pos hc]
    have key : ∀ (l : List (Str × Nat)) (x : List α), l.foldr (fun (p : Str × Nat) acc => acc.bind fun acc => match (ks.zip wα).lookup p.1 with
        | some w => some (w :: acc)
        | none => if ps.length - dα.length ≤ p.2 then (dα[p.2 - (ps.length - dα.length)]?).map (· :: acc) else none) (some []) = some x →
      ∃ y, l.foldr (fun (p : Str × Nat) acc => acc.bind fun acc => match (ks.zip wβ).lookup p.1 with
        | some w => some (w :: acc)
        | none => if ps.length - dα.length ≤ p.2 then (dβ[p.2 - (ps.length - dα.length)]?).map (· :: acc) else none) (some []) = some y ∧ Paired R x y := by
      intro l
      induction l with
      | nil => intro x h; cases h; exact ⟨[], rfl, .nil⟩
      | cons p l ih =>
        intro x h
        rw [List.foldr_cons] at h ⊢
        obtain ⟨acc, h1, h2⟩ := Option.bind_eq_some_iff.mp h
        obtain ⟨acc', e1, e2⟩ := ih acc h1
        rw [e1]
        show ∃ y, (match (ks.zip wβ).lookup p.1 with
          | some w => some (w :: acc')
          | none => if ps.length - dα.length ≤ p.2 then (dβ[p.2 - (ps.length - dα.length)]?).map (· :: acc') else none) = some y ∧ Paired R x y
        rcases paired_lookup (x := p.1) (ks := ks) hw with ⟨q1, q2⟩ | ⟨w, z, q1, q2, q3⟩
        · rw [q1] at h2
          rw [q2]
          dsimp only at h2 ⊢
          split at h2
          · rename_i hle
            rw [if_pos hle]
            rcases paired_at hd (p.2 - (ps.length - dα.length)) with ⟨r1, r2⟩ | ⟨a, b, r1, r2, r3⟩
            · rw [r1] at h2; cases h2
            · rw [r1] at h2
              cases h2
              rw [r2]
              exact ⟨b :: acc', rfl, .cons r3 e2⟩
          · cases h2
        · rw [q1] at h2
          cases h2
          rw [q2]
          exact ⟨z :: acc', rfl, .cons q3 e2⟩
    obtain ⟨acc, h1, h2⟩ := Option.map_eq_some_iff.mp h
    obtain ⟨acc', e1, e2⟩ := key _ acc h1
    subst h2
    exact ⟨pβ ++ acc', (congrArg (Option.map (pβ ++ ·)) e1).trans rfl, paired_app hp e2⟩
  · cases h
/-- how a call with n values and the keywords ks binds; dvs: the defaults -/
def Bnd (K : PySem.W.Frag) (fd : FuncData) (ps : List Str) (dvs : List V) (n : Nat) (ks : List Str) : Prop := ∃ its : List Value, Vals dvs its ∧ ∀ (s : Shared) (us ws : List Value), K.In s.heap → us.length = n → ws.length = ks.length →
  ∃ bound, arrange ps its us ks ws = some bound ∧ BindsTo s fd ⟨us, ks.zip ws⟩ (ps.zip bound)
section
variable {X : Cx} {CX : CXT} {k : Nat} {f : Addr} {fd : FuncData} {ps ks : List Str} {sp : Sp} {E : XK} {x : Str} {p pos : Pos} {e : Expr} {es : List Expr} {kws : List Keyword} {t tk : TA} {dvs : List V} {n : Nat}
def tCallG (ps ks : List Str) (dvs : List V) (n : Nat) (sp : Sp) (E : XK) (t tk : TA) : TE := fun σ H Q => t σ H fun vs H1 => tk σ H1 fun zs H2 => vs.length = n ∧ zs.length = ks.length ∧ ∃ bs, arrange ps dvs vs ks zs = some bs ∧ sp bs H2 Q E
theorem run_fnG {pins : List (Addr × Obj)} {σ : L2.St} {H : Hp} {s : Shared} {Q : VK} {us ws : List Value} {vs zs bs : List V} (F : FnOk X.prog X.w X.K X.mg X.base CX k f fd ps sp) (hr : Room k X.A) (hb : Bnd X.K fd ps dvs n ks) (hx : Passes CX X E)
    (I : Inv X pins σ H s) (r : Vals vs us) (rz : Vals zs ws) (l1 : vs.length = n) (l2 : zs.length = ks.length) (ha : arrange ps dvs vs ks zs = some bs) (h : sp bs H Q E) : wpAny (model X.prog X.w) X.A (call (.ref f) us (ks.zip ws)) (EP X pins σ Q) X.xe s := by
  obtain ⟨its, hd, hb⟩ := hb
  obtain ⟨bound, b1, b2⟩ := hb s us ws I.kIn (by rw [← r.length]; exact l1) (by rw [← rz.length]; exact l2)
  obtain ⟨ys, e1, r2⟩ := arrange_rel (R := RelV) hd r rz ha
  rw [b1] at e1
  cases e1
  refine wpAny_call (codeAny_mono (F.run X.A X.stack s H ⟨us, ks.zip ws⟩ bound bs Q E hr I.env0 b2 r2 h) fun r s' hq => ?_)
  cases r with
  | error e => exact hx pins σ H s e s' I hq
  | ok fl =>
    cases fl with
    | ret u => exact I.after hq
    | next => exact False.elim hq
    | brk => exact False.elim hq
    | cont => exact False.elim hq
theorem pe_callG (F : FnOk X.prog X.w X.K X.mg X.base CX k f fd ps sp) (hr : Room k X.A) (hg : Gl X x) (hm : X.mg x = some (.ref f)) (hk : PySem.W.keepIn X.K (.ref f) = true) (hb : Bnd X.K fd ps dvs n ks) (hx : Passes CX X E)
    (ha : PA X (e :: es) t) (hkw : PK X kws tk) (hall : (backToKw pos (keywordEach kws X.env)).all (·.1.isSome) = true) (hks : (backToKw pos (keywordEach kws X.env)).filterMap (·.1) = ks)
    (hdb : (x == ("__debug__" : Str)) = false) (he : starEach (e :: es) X.env = (false, eval e X.env) :: starEach es X.env)
    (hpl : ((backTo pos (starEach (e :: es) X.env)).any (·.1) || (backToKw pos (keywordEach kws X.env)).any (·.1.isNone)) = false) :
    PE X (.Call (.Name x p) (e :: es) kws pos) (tCallG ps ks dvs n sp E t tk) := by
  refine ⟨fun pins s σ H Q I h => ?_⟩
  refine wpAny_Call_Name_kw (ld_glob I hg hm ?_ hdb)
  refine PySem.W.callWith_KW (h₀ := X.base) I.ok.mod.kin hk hall (thn (ha.run pos pins s σ H _ I h) fun us s1 ⟨vs, H1, I1, r, q⟩ => ?_) hpl he
  refine thn (hkw.run pos pins s1 σ H1 _ I1 q) fun ws s2 ⟨zs, H2, I2, rz, l1, l2, bs, q1, q2⟩ => ⟨I2.kIn, ?_⟩
  rw [hks]
  exact run_fnG F hr hb hx I2 r rz l1 l2 q1 q2
theorem pe_callG0 (F : FnOk X.prog X.w X.K X.mg X.base CX k f fd ps sp) (hr : Room k X.A) (hg : Gl X x) (hm : X.mg x = some (.ref f)) (hk : PySem.W.keepIn X.K (.ref f) = true) (hb : Bnd X.K fd ps dvs n ks) (hx : Passes CX X E)
    (hkw : PK X kws tk) (hall : (backToKw pos (keywordEach kws X.env)).all (·.1.isSome) = true) (hks : (backToKw pos (keywordEach kws X.env)).filterMap (·.1) = ks)
    (hdb : (x == ("__debug__" : Str)) = false) (hpl : ((backTo pos (starEach [] X.env)).any (·.1) || (backToKw pos (keywordEach kws X.env)).any (·.1.isNone)) = false) :
    PE X (.Call (.Name x p) [] kws pos) (tCallG ps ks dvs n sp E tNil tk) := by
  refine ⟨fun pins s σ H Q I h => ?_⟩
  refine wpAny_Call_Name_kw (ld_glob I hg hm ?_ hdb)
  refine PySem.W.callWith_KW0 (h₀ := X.base) I.ok.mod.kin hk hall (thn (hkw.run pos pins s σ H _ I h) fun ws s2 ⟨zs, H2, I2, rz, l1, l2, bs, q1, q2⟩ => ⟨I2.kIn, ?_⟩) hpl
  rw [hks]
  exact run_fnG F hr hb hx I2 .nil rz l1 l2 q1 q2
end
/-! ### arguments -/
abbrev SdKs (X : Cx) (T : List (Addr × Str)) (W : WX) (es : List Keyword) (g : Den (List D)) : Prop := PK X es (TR X.K X.mg T W (lDs X.K X.mg) g)
theorem _root_.L2.PK.imp {X : Cx} {e : List Keyword} {t t' : TA} (h : PK X e t) (i : ∀ σ H Q, t' σ H Q → t σ H Q) : PK X e t' := ⟨fun pos pins s σ H Q I hq => h.run pos pins s σ H Q I (i σ H Q hq)⟩
section
variable {X : Cx} {T : List (Addr × Str)} {W : WX} {F : Ifc} {pos p : Pos} {a e : Expr} {A : E} {es : List Expr} {Es : List E} {bs : List Bool}
theorem sdks_nil : SdKs X T W [] (vVs []) := pk_nil.imp fun σ H Q ⟨P, la, S, ρ, R, q⟩ => q [] S H R (Same.refl _) .nil
theorem sdks_cons {nm : Option Str} {kws : List Keyword} {g : Den RV} {gs : List (Den RV)} (ha : SdE X T W a g) (hs : SdKs X T W kws (vVs gs)) : SdKs X T W (⟨nm, a, p⟩ :: kws) (vVs (g :: gs)) := by
  refine (pk_cons (sdV ha) hs).imp fun σ H Q ⟨P, la, S, ρ, R, q⟩ => ⟨P, la, S, ρ, R, ?_⟩
  rw [vVs] at q
  refine (post.bind (R1 := lD X.K X.mg) q).imp fun x H1 ⟨S1, ρ1, a1, R1, sm1, l1, p1⟩ => ⟨P, la, S1, ρ1, R1, ?_⟩
  refine (post.bind (R1 := lDs X.K X.mg) p1).imp fun y H2 ⟨S2, ρ2, a2, R2, sm2, l2, p2⟩ => ?_
  exact p2 _ S2 H2 R2 (Same.refl _) (.cons (Rp.mono sm2 l1) l2)
theorem sdas_nil : SdOs X T W [] (vAs bs [] []) := pa_nil.imp fun σ H Q ⟨P, la, S, ρ, R, q⟩ => by
  have q : post X.K X.mg T W (lOs X.K X.mg) P la S σ Q (.ok [] ρ) := by
    cases bs with
    | nil => exact q
    | cons b bs => cases b <;> exact q
  exact q [] S H R (Same.refl _) .nil
theorem sdas_val (ha : SdE X T W a (denE F A)) (hs : SdOs X T W es (vAs bs Es (denL F Es))) (he : starEach (a :: es) X.env = (false, eval a X.env) :: starEach es X.env) : SdOs X T W (a :: es) (vAs (false :: bs) (A :: Es) (denL F (A :: Es))) := by
  refine (pa_cons (sdV ha) hs he).imp fun σ H Q ⟨P, la, S, ρ, R, q⟩ => ⟨P, la, S, ρ, R, ?_⟩
  rw [denL, vAs] at q
  refine (post.bind (R1 := lD X.K X.mg) q).imp fun x H1 ⟨S1, ρ1, a1, R1, sm1, l1, p1⟩ => ⟨P, la, S1, ρ1, R1, ?_⟩
  refine (post.bind (R1 := lOs X.K X.mg) p1).imp fun y H2 ⟨S2, ρ2, a2, R2, sm2, l2, p2⟩ => ?_
  exact p2 _ S2 H2 R2 (Same.refl _) (.cons (show lO X.K X.mg P S2 H2 σ ρ2 (.v a1) x from Rp.mono sm2 l1) l2)
theorem sdL_slot {i : Nat} {x : Str} (hN : X.N[i]? = some x) (hv : Vis X.env.scope x) (hd : (x == ("__debug__" : Str)) = false) (hcd : (x == ("__classdict__" : Str)) = false) : SdO X T W (.Name x pos) (vL (.slot i) (denE F (.slot i))) := by
  refine (pe_var hN hv hd hcd).imp fun σ H Q ⟨P, la, S, ρ, R, h⟩ => ?_
  unfold vL at h
  dsimp only at h
  split at h
  · rename_i hs
    obtain ⟨d, hd⟩ := Option.isSome_iff_exists.mp hs
    obtain ⟨a, e1, _⟩ := R.mu i d (owned_mut hd)
    exact ⟨.ref a, e1, h (.ref a) S H R (Same.refl S) e1⟩
  · exact h.elim
theorem sdas_ref {i : Nat} (ha : SdO X T W a (vL (.slot i) (denE F (.slot i)))) (hs : SdOs X T W es (vAs bs Es (denL F Es))) (he : starEach (a :: es) X.env = (false, eval a X.env) :: starEach es X.env) : SdOs X T W (a :: es) (vAs (true :: bs) (.slot i :: Es) (denL F (.slot i :: Es))) := by
  refine (pa_cons ha hs he).imp fun σ H Q ⟨P, la, S, ρ, R, q⟩ => ⟨P, la, S, ρ, R, ?_⟩
  rw [denL, vAs] at q
  refine (post.bind (R1 := lO X.K X.mg) q).imp fun x H1 ⟨S1, ρ1, a1, R1, sm1, l1, p1⟩ => ⟨P, la, S1, ρ1, R1, ?_⟩
  refine (post.bind (R1 := lOs X.K X.mg) p1).imp fun y H2 ⟨S2, ρ2, a2, R2, sm2, l2, p2⟩ => ?_
  exact p2 _ S2 H2 R2 (Same.refl _) (.cons (l1.keep sm2) l2)
end
/-! ### the call -/
/-- what is known of a def: dvs its defaults -/
structure FnI (P : Program) (w : World) (K : PySem.W.Frag) (mg : Str → Option Value) (base : Heap) (T : List (Addr × Str)) (F : Ifc) (lv : Nat) (f : Str) (fa : Addr) (fd : FuncData) (dvs : List V) : Prop where
  hm : mg f = some (.ref fa)
  hk : PySem.W.keepIn K (.ref fa) = true
  fn : FnOk P w K mg base (L2.CX P w) lv fa fd (F.pars f) (spM K mg T (F.pars f).length (F.ino f) (F.call f))
  dv : ∀ S, RpL K mg S dvs (F.dfl f)
  len : ∀ ds, F.call f ds ≠ .bad → ds.length = (F.pars f).length
section
variable {X : Cx} {T : List (Addr × Str)} {E : XK} {F : Ifc} {pos p : Pos} {lv : Nat} {f : Str} {fa : Addr} {fd : FuncData} {dvs : List V}
theorem paired_v {K : PySem.W.Frag} {mg : Str → Option Value} {P S H : Hp} {σ : L2.St} {ρ : Env} : ∀ {vs : List V} {ds : List D}, RpL K mg S vs ds → Paired (lO K mg P S H σ ρ) (ds.map .v) vs
  | _, _, .nil => .nil
  | _, _, .cons h r => .cons h (paired_v r)
theorem lOs_keep {K : PySem.W.Frag} {mg : Str → Option Value} {P P' S S' H H' : Hp} {σ : L2.St} {ρ ρ' : Env} (sm : Same S S') : ∀ {os : List Opd} {vs : List V}, Paired (lO K mg P S H σ ρ) os vs → Paired (lO K mg P' S' H' σ ρ') os vs
  | _, _, .nil => .nil
  | _, _, .cons h r => .cons (h.keep sm) (lOs_keep sm r)
/-- the arguments told: the callee is entered -/
theorem call_ok (I : FnI X.prog X.w X.K X.mg X.base T F lv f fa fd dvs) {P : Hp} {la : Lk} {S H : Hp} {σ : L2.St} {ρ : Env} {Q : VK} {os : List Opd} {vs : List V} (R : Rel X.K X.mg T P la S H σ ρ) (ho : Paired (lO X.K X.mg P S H σ ρ) os vs)
    (q : post X.K X.mg T (wx E) (lRV X.K X.mg) P la S σ Q (callF F f os ρ)) : spM X.K X.mg T (F.pars f).length (F.ino f) (F.call f) vs H Q E := by
  unfold callF at q
  by_cases hl : lentOk ρ os (F.ino f) [] = true
  case neg =>
    rw [if_neg hl] at q
    exact q.elim
  rw [if_pos hl] at q
  cases hf : fetchAll ρ os with
  | none => rw [hf] at q; exact q.elim
  | some ds =>
    rw [hf] at q
    dsimp only at q
    have A : Args X.K X.mg P S H σ ρ os (F.ino f) vs ds := ⟨ho, hl, hf⟩
    obtain ⟨R1, l1, l2⟩ := R.enter A
    cases hc : F.call f ds with
    | bad => rw [hc] at q; exact q.elim
    | ok r outs =>
      rw [hc] at q
      dsimp only at q
      refine ⟨_, _, S, ds, R1, l1, l2, I.len ds (by rw [hc]; intro z; cases z), rfl, ?_⟩
      rw [hc]
      cases hg : giveBack os (F.ino f) outs ρ with
      | none => rw [hg] at q; exact q.elim
      | some ρ' =>
        rw [hg] at q
        intro v S' H' R' sm l
        obtain ⟨R2, hv⟩ := R.leave A R' sm hg
        exact q v S' H' R2 sm (hv r v l)
    | ex c pl outs =>
      rw [hc] at q
      dsimp only at q
      refine ⟨_, _, S, ds, R1, l1, l2, I.len ds (by rw [hc]; intro z; cases z), rfl, ?_⟩
      rw [hc]
      cases hg : giveBack os (F.ino f) outs ρ with
      | none => rw [hg] at q; exact q.elim
      | some ρ' =>
        rw [hg] at q
        intro cls d S' H' R' sm l
        obtain ⟨R2, _⟩ := R.leave A R' sm hg
        exact q cls d S' H' R2 sm l
theorem call_go (I : FnI X.prog X.w X.K X.mg X.base T F lv f fa fd dvs) {ks : List Str} {Es Ws : List Mini.E} {σ : L2.St} {H : Hp} {Q : VK} (hw : (denL F Ws).length = ks.length) (h : TR X.K X.mg T (wx E) (lRV X.K X.mg) (denE F (.call f Es ks Ws)) σ H Q) :
    tCallG (F.pars f) ks dvs (denL F Es).length (spM X.K X.mg T (F.pars f).length (F.ino f) (F.call f)) E (TR X.K X.mg T (wx E) (lOs X.K X.mg) (vAs (F.ino f) Es (denL F Es))) (TR X.K X.mg T (wx E) (lDs X.K X.mg) (vVs (denL F Ws))) σ H Q := by
  obtain ⟨P, la, S, ρ, R, q⟩ := h
  rw [denE] at q
  dsimp only at q
  refine ⟨P, la, S, ρ, R, ?_⟩
  have vAs_len : ∀ {bs : List Bool} {Es : List Mini.E} {ρ ρ' : Env} {os : List Opd}, vAs bs Es (denL F Es) ρ = .ok os ρ' → os.length = (denL F Es).length := by
    intro bs Es
    induction Es generalizing bs with
    | nil => intro ρ ρ' os h; cases bs with
      | nil => cases h; rfl
      | cons b bs => cases b <;> (cases h; rfl)
    | cons e es ih =>
      intro ρ ρ' os h
      cases bs with
      | nil => cases h
      | cons b bs =>
        cases b
        · rw [denL, vAs] at h
          obtain ⟨d, ρ1, h1, h2⟩ := bind_ok h
          obtain ⟨os', ρ2, h3, h4⟩ := bind_ok h2
          cases h4
          rw [denL, List.length_cons, List.length_cons, ih h3]
        · rw [denL, vAs] at h
          obtain ⟨d, ρ1, h1, h2⟩ := bind_ok h
          obtain ⟨os', ρ2, h3, h4⟩ := bind_ok h2
          cases h4
          rw [denL, List.length_cons, List.length_cons, ih h3]
  cases hv : vAs (F.ino f) Es (denL F Es) ρ with
  | bad => rw [hv] at q; exact q.elim
  | ex c pl ρ1 => rw [hv] at q; exact q
  | ok os ρ1 =>
    rw [hv] at q
    intro vs S1 H1 R1 sm1 l1
    have q := post.mono sm1 q
    rw [Res.bind_ok] at q
    refine ⟨P, la, S1, ρ1, R1, ?_⟩
    cases hz : vVs (denL F Ws) ρ1 with
    | bad => rw [hz] at q; exact q.elim
    | ex c pl ρ2 => rw [hz] at q; exact q
    | ok ws ρ2 =>
      rw [hz] at q
      intro zs S2 H2 R2 sm2 l2
      have q := post.mono sm2 q
      rw [Res.bind_ok] at q
      have l1 : Paired (lO X.K X.mg P S1 H1 σ ρ1) os vs := l1
      have l2 : RpL X.K X.mg S2 zs ws := l2
      refine ⟨by rw [← paired_len l1]; exact vAs_len hv, by rw [l2.length, vVs_len hz]; exact hw, ?_⟩
      cases ha : arrange (F.pars f) ((F.dfl f).map .v) os ks (ws.map .v) with
      | none => rw [ha] at q; exact q.elim
      | some os' =>
        rw [ha] at q
        obtain ⟨bs, e1, e2⟩ := arrange_rel (R := lO X.K X.mg P S2 H2 σ ρ2) (paired_v (I.dv S2)) (lOs_keep sm2 l1) (paired_v l2) ha
        exact ⟨bs, e1, call_ok I R2 e2 q⟩
variable {e : Expr} {es : List Expr} {kws : List Keyword} {Es Ws : List Mini.E} {ks : List Str}
theorem sd_call (tk : Takes X (wx E)) (hr : Room lv X.A) (I : FnI X.prog X.w X.K X.mg X.base T F lv f fa fd dvs) (hb : Bnd X.K fd (F.pars f) dvs (denL F Es).length ks) (hg : Gl X f) (hdb : (f == ("__debug__" : Str)) = false)
    (ha : SdOs X T (wx E) (e :: es) (vAs (F.ino f) Es (denL F Es))) (hkw : SdKs X T (wx E) kws (vVs (denL F Ws))) (hw : (denL F Ws).length = ks.length)
    (hall : (backToKw pos (keywordEach kws X.env)).all (·.1.isSome) = true) (hks : (backToKw pos (keywordEach kws X.env)).filterMap (·.1) = ks) (he : starEach (e :: es) X.env = (false, eval e X.env) :: starEach es X.env)
    (hpl : ((backTo pos (starEach (e :: es) X.env)).any (·.1) || (backToKw pos (keywordEach kws X.env)).any (·.1.isNone)) = false) :
    SdE X T (wx E) (.Call (.Name f p) (e :: es) kws pos) (denE F (.call f Es ks Ws)) :=
  (pe_callG I.fn hr hg I.hm I.hk hb (passes_call tk fun _ _ _ _ z => z) ha hkw hall hks hdb he hpl).imp fun _ _ _ h => call_go I hw h
theorem sd_call0 (tk : Takes X (wx E)) (hr : Room lv X.A) (I : FnI X.prog X.w X.K X.mg X.base T F lv f fa fd dvs) (hb : Bnd X.K fd (F.pars f) dvs 0 ks) (hg : Gl X f) (hdb : (f == ("__debug__" : Str)) = false)
    (hkw : SdKs X T (wx E) kws (vVs (denL F Ws))) (hw : (denL F Ws).length = ks.length)
    (hall : (backToKw pos (keywordEach kws X.env)).all (·.1.isSome) = true) (hks : (backToKw pos (keywordEach kws X.env)).filterMap (·.1) = ks)
    (hpl : ((backTo pos (starEach [] X.env)).any (·.1) || (backToKw pos (keywordEach kws X.env)).any (·.1.isNone)) = false) :
    SdE X T (wx E) (.Call (.Name f p) [] kws pos) (denE F (.call f [] ks Ws)) :=
  (pe_callG0 I.fn hr hg I.hm I.hk hb (passes_call tk fun _ _ _ _ z => z) hkw hall hks hdb hpl).imp fun σ H Q h => by
    obtain ⟨P, la, S, ρ, R, q⟩ := call_go I (E := E) hw h
    have e : vAs (F.ino f) [] (denL F []) ρ = .ok [] ρ := by
      cases F.ino f with
      | nil => rfl
      | cons b bs => cases b <;> rfl
    rw [e] at q
    exact q [] S H R (Same.refl _) .nil
end
end Mini

/- M4 -/
set_option Elab.async false
set_option linter.all false
set_option maxRecDepth 100000
set_option maxHeartbeats 1000000
/-! MINI 4: statements. -/
namespace Mini
open PySem PySem.Spec PyProof.Rows L2 LamX
section
variable (K : PySem.W.Frag) (mg : Str → Option Value) (T : List (Addr × Str))
def postS (W : WX) (P : Hp) (la : Lk) (S : Hp) (D : Ends) : SRes → Prop
  | .nx ρ' => ∀ σ' S' H', Rel K mg T P la S' H' σ' ρ' → Same S S' → D.nx σ' H'
  | .bk ρ' => ∀ σ' S' H', Rel K mg T P la S' H' σ' ρ' → Same S S' → D.bk σ' H'
  | .ct ρ' => ∀ σ' S' H', Rel K mg T P la S' H' σ' ρ' → Same S S' → D.ct σ' H'
  | .rt r ρ' => ∀ v σ' S' H', Rel K mg T P la S' H' σ' ρ' → Same S S' → lRV K mg P S' H' σ' ρ' r v → D.rt v H'
  | .ex c pl ρ' => ∀ cls d σ' S' H', Rel K mg T P la S' H' σ' ρ' → Same S S' → ExcV K mg S' H' cls d c pl → W cls d σ' H'
  | .bad => False
def TRS (W : WX) (g : Env → SRes) : TS := fun D σ H => ∃ P la S ρ, Rel K mg T P la S H σ ρ ∧ postS K mg T W P la S D (g ρ)
end
abbrev SdS (X : Cx) (T : List (Addr × Str)) (W : WX) (st : Stmt) (g : Env → SRes) : Prop := PS X st (TRS X.K X.mg T W g)
abbrev SdB (X : Cx) (T : List (Addr × Str)) (W : WX) (sts : List Stmt) (g : Env → SRes) : Prop := PSs X sts (TRS X.K X.mg T W g)
theorem _root_.L2.PSs.imp {X : Cx} {e : List Stmt} {t t' : TS} (h : PSs X e t) (i : ∀ D σ H, t' D σ H → t D σ H) : PSs X e t' := ⟨fun pins s σ H D I hq => h.run pins s σ H D I (i D σ H hq)⟩
section
variable {K : PySem.W.Frag} {mg : Str → Option Value} {T : List (Addr × Str)} {W : WX} {P P' S S' H : Hp} {la : Lk} {σ : L2.St} {ρ : Env} {D D' : Ends}
theorem postS.mono {r : SRes} (sm : Same S S') (h : postS K mg T W P la S D r) : postS K mg T W P la S' D r := by
  cases r with
  | nx ρ' => exact fun σ' S1 H1 R e => h σ' S1 H1 R (sm.trans e)
  | bk ρ' => exact fun σ' S1 H1 R e => h σ' S1 H1 R (sm.trans e)
  | ct ρ' => exact fun σ' S1 H1 R e => h σ' S1 H1 R (sm.trans e)
  | rt r ρ' => exact fun v σ' S1 H1 R e l => h v σ' S1 H1 R (sm.trans e) l
  | ex c pl ρ' => exact fun cls d σ' S1 H1 R e l => h cls d σ' S1 H1 R (sm.trans e) l
  | bad => exact h
theorem postS.to {α β : Type} {R1 : Lies α β} {r : Res α} {f : α → Env → SRes} (h : postS K mg T W P la S D (r.to f)) :
    post K mg T W R1 P la S σ (fun v H1 => ∃ S1 ρ1 a, Rel K mg T P la S1 H1 σ ρ1 ∧ Same S S1 ∧ R1 P S1 H1 σ ρ1 a v ∧ postS K mg T W P la S1 D (f a ρ1)) r := by
  cases r with
  | ok a ρ' => exact fun v S1 H1 r1 e r2 => ⟨S1, ρ', a, r1, e, r2, postS.mono e h⟩
  | ex c pl ρ' => exact fun cls d S1 H1 R e l => h cls d σ S1 H1 R e l
  | bad => exact h
theorem postS.then {r : SRes} {f : Env → SRes} (h : postS K mg T W P la S D (r.then f)) : postS K mg T W P la S { D with nx := TRS K mg T W f D } r := by
  cases r with
  | nx ρ' => exact fun σ' S1 H1 R e => ⟨P, la, S1, ρ', R, postS.mono e h⟩
  | bk ρ' => exact h
  | ct ρ' => exact h
  | rt r ρ' => exact h
  | ex c pl ρ' => exact h
  | bad => exact h
theorem postS.ofO {o : Option Env} (h : postS K mg T W P la S D (SRes.ofO o)) : ∃ ρ', o = some ρ' ∧ postS K mg T W P la S D (.nx ρ') := by
  cases o with
  | none => exact h.elim
  | some ρ' => exact ⟨ρ', rfl, h⟩
/-- a name's content is dropped -/
theorem Rel.drop (R : Rel K mg T P la S H σ ρ) {i : Nat} {s : Slot} (hs : ρ[i]? = some s) (hf : s.fix = false) : Rel K mg T P la S H σ (ρ.set i .no) := by
  have gi : (ρ.set i .no)[i]? = some Slot.no := List.getElem?_set_self (lt_of_get hs)
  have gj : ∀ j, j ≠ i → (ρ.set i .no)[j]? = ρ[j]? := fun j hj => List.getElem?_set_ne (Ne.symm hj)
  have ne : ∀ {j s'}, (ρ.set i .no)[j]? = some s' → s' ≠ .no → j ≠ i := fun h hn z => by
    rw [z, gi] at h; exact hn (Option.some.inj h).symm
  have nm : ∀ {j}, (mutD (ρ.set i .no) j).isSome = true → j ≠ i := fun h z => by
    rw [z, mutD_of gi] at h; cases h
  refine ⟨R.sub, R.prot, R.dj, R.nt, R.tabs, R.tabN, by rw [List.length_set]; exact R.len, fun j d h => ?_, fun j d h => ?_, fun j s' h hf' => ?_, fun j d h => ?_, fun j k b hjk h1 h2 => ?_⟩
  · rw [gj j (ne h fun z => by cases z)] at h; exact R.val j d h
  · have hj := nm (by rw [h]; rfl)
    rw [mutD_eq (gj j hj)] at h; exact R.mu j d h
  · rw [gj j (ne h fun z => by rw [z] at hf'; cases hf')] at h; exact R.fix j s' h hf'
  · have q := R.lks j d h
    have hj : j ≠ i := fun z => by rw [z, hs] at q; cases q; cases hf
    rw [gj j hj]; exact q
  · rw [mutD_eq (gj j (nm h1))] at h1
    rw [mutD_eq (gj k (nm h2))] at h2
    exact R.inj j k b hjk h1 h2
end
section
variable {X : Cx} {T : List (Addr × Str)} {W : WX} {F : Ifc} {pos pos' p : Pos} {a b c e : Expr} {A B C E : E} {st : Stmt} {sts : List Stmt} {ss : List S} {s : S}
theorem sb_nil : SdB X T W [] (denB F []) := pss_nil.imp fun D σ H ⟨P, la, S, ρ, R, q⟩ => q σ S H R (Same.refl _)
theorem sb_cons (h1 : SdS X T W st (denS F s)) (h2 : SdB X T W sts (denB F ss)) : SdB X T W (st :: sts) (denB F (s :: ss)) :=
  (pss_cons h1 h2).imp fun D σ H ⟨P, la, S, ρ, R, q⟩ => ⟨P, la, S, ρ, R, by rw [denB] at q; exact postS.then q⟩
theorem ss_pass : SdS X T W (.Pass pos) (denS F .pass) := ps_pass.imp fun D σ H ⟨P, la, S, ρ, R, q⟩ => by
  rw [denS] at q
  exact q σ S H R (Same.refl _)
theorem ss_brk : SdS X T W (.Break pos) (denS F .brk) := ps_break.imp fun D σ H ⟨P, la, S, ρ, R, q⟩ => by
  rw [denS] at q
  exact q σ S H R (Same.refl _)
theorem ss_cont : SdS X T W (.Continue pos) (denS F .cont) := ps_continue.imp fun D σ H ⟨P, la, S, ρ, R, q⟩ => by
  rw [denS] at q
  exact q σ S H R (Same.refl _)
theorem ss_never : SdS X T W st (denS F .never) := ps_never.imp fun D σ H ⟨P, la, S, ρ, R, q⟩ => by
  rw [denS] at q
  exact q.elim
theorem ss_retN : SdS X T W (.Return none pos) (denS F .retN) := ps_retN.imp fun D σ H ⟨P, la, S, ρ, R, q⟩ => by
  rw [denS] at q
  exact q .non σ S H R (Same.refl _) .non
theorem ss_expr (he : SdE X T W e (denE F E)) (hs : swapsWith e none pos.line X.env = pure false) : SdS X T W (.Expr e pos) (denS F (.expr E)) :=
  (ps_expr he hs).imp fun D σ H ⟨P, la, S, ρ, R, q⟩ => ⟨P, la, S, ρ, R, by
    rw [denS] at q
    exact (postS.to (R1 := lRV X.K X.mg) q).imp fun v H1 ⟨S1, ρ1, r, R1, sm, l, p1⟩ => p1 σ S1 H1 R1 (Same.refl _)⟩
theorem ret_go {D : Ends} {σ : L2.St} {H : Hp} (hs : ∀ i, E ≠ .slot i) (h : TRS X.K X.mg T W (denS F (.ret E)) D σ H) : TR X.K X.mg T W (lRV X.K X.mg) (denE F E) σ H D.rt := by
  obtain ⟨P, la, S, ρ, R, q⟩ := h
  have e : denS F (.ret E) ρ = (denE F E ρ).to fun r ρ => .rt r ρ := by
    cases E <;> first | (rw [denS]; done) | (rw [denS]; rfl) | exact absurd rfl (hs _)
  rw [e] at q
  exact ⟨P, la, S, ρ, R, (postS.to (R1 := lRV X.K X.mg) q).imp fun v H1 ⟨S1, ρ1, r, R1, sm, l, p1⟩ => p1 v σ S1 H1 R1 (Same.refl _) l⟩
theorem ss_ret (he : SdE X T W e (denE F E)) (hs : ∀ i, E ≠ .slot i) : SdS X T W (.Return (some e) pos) (denS F (.ret E)) :=
  (ps_ret he).imp fun D σ H h => ret_go hs h
theorem ss_retSlot {i : Nat} {x : Str} (hN : X.N[i]? = some x) (hv : Vis X.env.scope x) (hd : (x == ("__debug__" : Str)) = false) (hcd : (x == ("__classdict__" : Str)) = false) : SdS X T W (.Return (some (.Name x p)) pos) (denS F (.ret (.slot i))) := by
  refine (ps_ret (pe_var hN hv hd hcd)).imp fun D σ H ⟨P, la, S, ρ, R, q⟩ => ?_
  rw [denS] at q
  dsimp only at q
  split at q
  · rename_i d e
    obtain ⟨a, e1, w, hP⟩ := R.mu i d (by rw [mutD_of e]; rfl)
    refine ⟨.ref a, e1, ?_⟩
    refine q (.ref a) σ S H (R.drop e rfl) (Same.refl _) ⟨a, rfl, w, hP, fun j hj z => ?_⟩
    have gi : (ρ.set i .no)[i]? = some Slot.no := List.getElem?_set_self (lt_of_get e)
    have hji : j ≠ i := fun z => by rw [z, mutD_of gi] at hj; cases hj
    rw [mutD_eq (show (ρ.set i .no)[j]? = ρ[j]? from List.getElem?_set_ne (Ne.symm hji))] at hj
    exact R.inj j i a hji hj (by rw [mutD_of e]; rfl) z e1
  · rename_i d e
    obtain ⟨v, e1, r⟩ := R.val i d e
    exact ⟨v, e1, q v σ S H R (Same.refl _) r⟩
  · exact q.elim
theorem ss_if {p q : List Stmt} {ss1 ss2 : List S} (hc : SdT X T W c (vT C (denE F C))) (ha : SdB X T W p (denB F ss1)) (hb : SdB X T W q (denB F ss2)) : SdS X T W (.If c p q pos) (denS F (.ifs C ss1 ss2)) :=
  (ps_if hc ha hb).imp fun D σ H ⟨P, la, S, ρ, R, h⟩ => ⟨P, la, S, ρ, R, by
    rw [denS] at h
    refine (postS.to (R1 := lB) h).imp fun k H1 ⟨S1, ρ1, k1, R1, sm, l, p1⟩ => ?_
    have l : k = k1 := l
    subst l
    cases k with
    | true => exact iteT ⟨P, la, S1, ρ1, R1, p1⟩
    | false => exact iteF ⟨P, la, S1, ρ1, R1, p1⟩⟩
/-! ### names given values -/
theorem set_go {i : Nat} {D : Ends} {σ : L2.St} {H : Hp} (h : TRS X.K X.mg T W (denS F (.set i E)) D σ H) : TR X.K X.mg T W (lRV X.K X.mg) (denE F E) σ H fun x H1 => gName i x σ H1 D.nx := by
  obtain ⟨P, la, S, ρ, R, q⟩ := h
  rw [denS] at q
  refine ⟨P, la, S, ρ, R, (postS.to (R1 := lRV X.K X.mg) q).imp fun v H1 ⟨S1, ρ1, r, R1, sm, l, p1⟩ => ?_⟩
  obtain ⟨ρ', e, p2⟩ := postS.ofO p1
  exact p2 _ S1 H1 (R1.put e l) (Same.refl _)
theorem ss_set {i : Nat} {x : Str} (hN : X.N.Nodup) (hi : X.N[i]? = some x) (hx : Loc X.env.scope x) (hf : X.fn x = true ∨ X.env.scope.names.lookup x = some .local) (he : SdE X T W e (denE F E)) (hs : swapsWith e (some (.Name x pos')) pos.line X.env = pure false) :
    SdS X T W (.Assign [.Name x pos'] e pos) (denS F (.set i E)) :=
  (ps_set hN hi hx he hs hf).imp fun D σ H h => set_go h
theorem ss_setC {i : Nat} {y : Str} {elt tg iter : Expr} {ifs : List Expr} {It Elt : Mini.E} {Ifs : List Mini.E} {t : Tg} {scope : Scope} {own : List (Str × Nat)} {cpos : Pos} (hc : X.calm = true) (hN : X.N.Nodup) (hy : X.N[i]? = some y) (hyl : X.env.scope.names.lookup y = some .local)
    (hsw : swapsWith (.ListComp elt [⟨tg, iter, ifs, 0⟩] scope cpos) (some (.Name y pos')) pos.line X.env = pure true)
    (hi : SdI X T W tg iter It F) (ok : BlkOk X.N X.env.scope scope own) (ht : ∀ j ∈ t.slots, j ∈ own.map (·.2))
    (hg : ∀ (s : Shared) (H : Hp) (C : Addr) (cl : List (Str × Addr)) (fp : List Addr), SdG (X.blk s H scope (compEnvC scope cl C X.env) fp) T tg t) (hts : ∀ (s : Shared) (H : Hp) (C : Addr) (cl : List (Str × Addr)) (fp : List Addr), SdTs (X.blk s H scope (compEnvC scope cl C X.env) fp) T W0 ifs (vTs Ifs (denL F Ifs)))
    (he : ∀ (s : Shared) (H : Hp) (C : Addr) (cl : List (Str × Addr)) (fp : List Addr), SdE (X.blk s H scope (compEnvC scope cl C X.env) fp) T W0 elt (denE F Elt)) (hs : ∀ x, foldedSetIterable iter X.env x = pure x) :
    SdS X T W (.Assign [.Name y pos'] (.ListComp elt [⟨tg, iter, ifs, 0⟩] scope cpos) pos) (denS F (.set i (.comp (own.map (·.2)) t It Ifs Elt))) :=
  (ps_setLc hc hN hy hyl hsw hi ok hg hts (fun s H C cl fp => sdV (he s H C cl fp)) hs).imp fun D σ H h => comp_go ht (set_go h)
theorem ss_setC2 {i : Nat} {y : Str} {elt tg iter tg2 iter2 : Expr} {ifs ifs2 : List Expr} {It It2 Elt : Mini.E} {Ifs Ifs2 : List Mini.E} {t t2 : Tg} {scope : Scope} {own : List (Str × Nat)} {own2 : List Nat} {cpos : Pos} (hc : X.calm = true) (hN : X.N.Nodup) (hy : X.N[i]? = some y) (hyl : X.env.scope.names.lookup y = some .local)
    (hsw : swapsWith (.ListComp elt [⟨tg, iter, ifs, 0⟩, ⟨tg2, iter2, ifs2, 0⟩] scope cpos) (some (.Name y pos')) pos.line X.env = pure true)
    (hi : SdI X T W tg iter It F) (ok : BlkOk X.N X.env.scope scope own) (ht : ∀ j ∈ t.slots, j ∈ own.map (·.2)) (ht2 : ∀ j ∈ t2.slots, j ∈ own2) (ho : ∀ j ∈ own2, j ∈ own.map (·.2))
    (hg : ∀ (s : Shared) (H : Hp) (C : Addr) (cl : List (Str × Addr)) (fp : List Addr), SdG (X.blk s H scope (compEnvC scope cl C X.env) fp) T tg t) (hts : ∀ (s : Shared) (H : Hp) (C : Addr) (cl : List (Str × Addr)) (fp : List Addr), SdTs (X.blk s H scope (compEnvC scope cl C X.env) fp) T W0 ifs (vTs Ifs (denL F Ifs)))
    (hi2 : ∀ (s : Shared) (H : Hp) (C : Addr) (cl : List (Str × Addr)) (fp : List Addr), SdI (X.blk s H scope (compEnvC scope cl C X.env) fp) T W0 tg2 iter2 It2 F)
    (hg2 : ∀ (s : Shared) (H : Hp) (C : Addr) (cl : List (Str × Addr)) (fp : List Addr), SdG (X.blk s H scope (compEnvC scope cl C X.env) fp) T tg2 t2) (hts2 : ∀ (s : Shared) (H : Hp) (C : Addr) (cl : List (Str × Addr)) (fp : List Addr), SdTs (X.blk s H scope (compEnvC scope cl C X.env) fp) T W0 ifs2 (vTs Ifs2 (denL F Ifs2)))
    (he : ∀ (s : Shared) (H : Hp) (C : Addr) (cl : List (Str × Addr)) (fp : List Addr), SdE (X.blk s H scope (compEnvC scope cl C X.env) fp) T W0 elt (denE F Elt)) (hs : ∀ x, foldedSetIterable iter X.env x = pure x) (hs2 : ∀ env x, foldedSetIterable iter2 env x = pure x) :
    SdS X T W (.Assign [.Name y pos'] (.ListComp elt [⟨tg, iter, ifs, 0⟩, ⟨tg2, iter2, ifs2, 0⟩] scope cpos) pos) (denS F (.set i (.comp2 (own.map (·.2)) own2 t It Ifs t2 It2 Ifs2 Elt))) :=
  (ps_setLc2 hc hN hy hyl hsw hi ok (fun i hi => ho i hi) hg hts hi2 hg2 hts2 (fun s H C cl fp => sdV (he s H C cl fp)) hs hs2).imp fun D σ H h => comp2_go ht ht2 ho (set_go h)
/-! ### loops -/
def fin (ρ₀ : Env) (is : List Nat) : SRes → SRes
  | .nx ρ' => .nx (unlock ρ₀ is ρ')
  | .bk ρ' => .nx (unlock ρ₀ is ρ')
  | .rt r ρ' => .rt r (unlock ρ₀ is ρ')
  | .ex c pl ρ' => .ex c pl (unlock ρ₀ is ρ')
  | _ => .bad
theorem denS_for {t : Tg} {It : Mini.E} {ρ : Env} : denS F (.forS t It ss) ρ = (vIt It (denE F It) ρ).to fun xs ρ => fin ρ (walked It) (loop (fun x ρ => (SRes.ofO (asg t x ρ)).then (denB F ss)) xs (lock (walked It) ρ)) := by
  rw [denS]
  rfl
theorem unlock_mut (ρ₀ : Env) (is : List Nat) (ρ : Env) (j : Nat) (h : (mutD (unlock ρ₀ is ρ) j).isSome = true) (R₀ : ∀ s d, ρ₀[j]? = some s → (s = .own d ∨ s = .ref d) → j ∈ is → ∃ x, ρ[j]? = some (.lk x)) : (mutD ρ j).isSome = true := by
  unfold mutD at h ⊢
  rw [unlock_get] at h
  split at h
  · rename_i hj
    cases e : ρ[j]? with
    | none => rw [e] at h; cases h
    | some s =>
      rw [e] at h
      cases e0 : ρ₀[j]? with
      | none => rw [e0] at h; exact h
      | some s₀ =>
        rw [e0] at h
        cases s₀ with
        | own d => obtain ⟨x, q⟩ := R₀ _ d e0 (.inl rfl) hj; rw [e] at q; cases q; rfl
        | ref d => obtain ⟨x, q⟩ := R₀ _ d e0 (.inr rfl) hj; rw [e] at q; cases q; rfl
        | _ => exact h
  · exact h
theorem ss_for {tg iter : Expr} {body : List Stmt} {t : Tg} {It : Mini.E} (hp : PassesOwn (model X.prog X.w) X.A X.env X.xe) (hc : X.calm = true) (hi : SdI X T W tg iter It F) (hg : SdG X T tg t) (hb : SdB X T W body (denB F ss)) (hs : ∀ x, foldedSetIterable iter X.env x = pure x) :
    SdS X T W (.For tg iter body [] pos) (denS F (.forS t It ss)) := by
  refine (ps_for hp hc hi hg hb hs).imp fun D σ H ⟨P, la, S0, ρ0, R0, q⟩ => ⟨P, la, S0, ρ0, R0, ?_⟩
  rw [denS_for] at q
  refine (postS.to (R1 := lI X.K X.mg T (walked It)) q).imp fun J H1 ⟨S1, ρ1, xs, R1, sm1, wk, p1⟩ => ?_
  have wk : Wk X.K X.mg T S1 σ ρ1 (walked It) xs J := wk
  generalize hstep : (fun x ρ => (SRes.ofO (asg t x ρ)).then (denB F ss)) = step at p1
  refine ⟨fun i m σ' H => m = xs.length - i ∧ i ≤ xs.length ∧ ∃ S ρ, Rel X.K X.mg T P (lockL la σ ρ1 (walked It)) S H σ' ρ ∧ Same S1 S ∧ postS X.K X.mg T W P la S D (fin ρ1 (walked It) (loop step (xs.drop i) ρ)),
    ⟨xs.length, rfl, Nat.zero_le _, S1, lock (walked It) ρ1, R1.lock _, Same.refl _, p1⟩, ?_⟩
  rintro i m σ' H ⟨rfl, hi', S, ρ, R, sm, hq⟩
  obtain ⟨w1, w2⟩ := wk _ _ S H σ' ρ i R sm (held R1 R)
  by_cases hlt : i < xs.length
  case neg =>
    left
    refine ⟨w2 (by omega), ?_⟩
    rw [List.drop_of_length_le (by omega)] at hq
    exact hq σ' S H (R1.unlock R) (Same.refl _)
  right
  obtain ⟨d, hd⟩ : ∃ d, xs[i]? = some d := ⟨xs[i], List.getElem?_eq_getElem hlt⟩
  obtain ⟨hgo, hy⟩ := w1 d hd
  have hdrop : xs.drop i = d :: xs.drop (i + 1) := by
    rw [List.drop_eq_getElem_cons hlt]
    congr 1
    rw [List.getElem?_eq_getElem hlt] at hd
    exact Option.some.inj hd
  rw [hdrop] at hq
  refine ⟨hgo, fun σ' H' => ∃ S ρ, Rel X.K X.mg T P (lockL la σ ρ1 (walked It)) S H' σ' ρ ∧ Same S1 S ∧ postS X.K X.mg T W P la S D (fin ρ1 (walked It) (loop step (xs.drop (i + 1)) ρ)), fun σ' H' h' => ⟨xs.length - (i + 1), by omega, rfl, by omega, h'⟩, fun x H' hyl => ?_⟩
  obtain ⟨S', R', sm', rx⟩ := hy x H' hyl
  have hq := postS.mono sm' hq
  unfold loop at hq
  cases ha : asg t d ρ with
  | none =>
    have : step d ρ = .bad := by rw [← hstep]; dsimp only; rw [ha]; rfl
    rw [this] at hq
    exact hq.elim
  | some ρa =>
    have hst : step d ρ = denB F ss ρa := by rw [← hstep]; dsimp only; rw [ha]; rfl
    rw [hst] at hq
    refine ⟨P, _, S', ρ, d, ρa, R', rx, ha, fun σ2 R2 hσ hσl => ⟨P, _, S', ρa, R2, ?_⟩⟩
    -- the body's result
    cases hr : denB F ss ρa with
    | nx ρ' =>
      rw [hr] at hq
      exact fun σ3 S3 H3 R3 sm3 => ⟨S3, ρ', R3, (sm.trans sm').trans sm3, postS.mono sm3 hq⟩
    | ct ρ' =>
      rw [hr] at hq
      exact fun σ3 S3 H3 R3 sm3 => ⟨S3, ρ', R3, (sm.trans sm').trans sm3, postS.mono sm3 hq⟩
    | bk ρ' =>
      rw [hr] at hq
      exact fun σ3 S3 H3 R3 sm3 => hq σ3 S3 H3 (R1.unlock R3) sm3
    | rt r ρ' =>
      rw [hr] at hq
      intro v σ3 S3 H3 R3 sm3 l
      refine hq v σ3 S3 H3 (R1.unlock R3) sm3 ?_
      cases r with
      | val d => exact l
      | own d =>
        obtain ⟨a, rfl, w, hP, hn⟩ := l
        refine ⟨a, rfl, w, hP, fun j hj => hn j (unlock_mut _ _ _ j hj fun s d' e hs hjm => ?_)⟩
        obtain ⟨b, q1, _⟩ := held R1 R3 j hjm d' (by rw [mutD_of e]; rcases hs with rfl | rfl <;> rfl)
        exact ⟨d', q1⟩
    | ex c pl ρ' =>
      rw [hr] at hq
      exact fun cls dd σ3 S3 H3 R3 sm3 l => hq cls dd σ3 S3 H3 (R1.unlock R3) sm3 l
    | bad =>
      rw [hr] at hq
      exact hq
theorem ss_while {body : List Stmt} (hp : PassesOwn (model X.prog X.w) X.A X.env X.xe) (hc : SdT X T W c (vT C (denE F C))) (hb : SdB X T W body (denB F ss)) : SdS X T W (.While c body [] pos) (denS F (.whl C ss)) := by
  refine (ps_while hp hc hb).imp fun D σ H ⟨P, la, S0, ρ0, R0, q⟩ => ?_
  rw [denS] at q
  refine ⟨fun m σ H => ∃ S ρ, Rel X.K X.mg T P la S H σ ρ ∧ postS X.K X.mg T W P la S D (whileL (vT C (denE F C)) (denB F ss) m ρ), ⟨F.fuel, S0, ρ0, R0, q⟩, ?_⟩
  rintro m σ H ⟨S, ρ, R, hq⟩
  cases m with
  | zero => exact hq.elim
  | succ m =>
    unfold whileL at hq
    refine ⟨P, la, S, ρ, R, (postS.to (R1 := lB) hq).imp fun k H1 ⟨S1, ρ1, k1, R1, sm, l, p1⟩ => ?_⟩
    have l : k = k1 := l
    subst l
    cases k with
    | false => exact iteF (p1 σ S1 H1 R1 (Same.refl _))
    | true =>
      refine iteT ⟨fun σ' H' => ∃ S ρ, Rel X.K X.mg T P la S H' σ' ρ ∧ postS X.K X.mg T W P la S D (whileL (vT C (denE F C)) (denB F ss) m ρ), fun σ' H' h' => ⟨m, Nat.lt_succ_self _, h'⟩, P, la, S1, ρ1, R1, ?_⟩
      rw [if_pos rfl] at p1
      cases hr : denB F ss ρ1 with
      | nx ρ' => rw [hr] at p1; exact fun σ3 S3 H3 R3 sm3 => ⟨S3, ρ', R3, postS.mono sm3 p1⟩
      | ct ρ' => rw [hr] at p1; exact fun σ3 S3 H3 R3 sm3 => ⟨S3, ρ', R3, postS.mono sm3 p1⟩
      | bk ρ' => rw [hr] at p1; exact p1
      | rt r ρ' => rw [hr] at p1; exact p1
      | ex c pl ρ' => rw [hr] at p1; exact p1
      | bad => rw [hr] at p1; exact p1
end
end Mini

/- M4b -/
set_option Elab.async false
set_option linter.all false
set_option maxRecDepth 100000
set_option maxHeartbeats 1000000
/-! MINI 4b: several names at once, stores, displays of dicts, raise. -/
namespace Mini
open PySem PySem.Spec PyProof.Rows L2 LamX
def Away (a : Addr) (rs : List RV) (vs : List V) : Prop := ∀ (p : Nat) (d : D) (b : Addr), rs[p]? = some (RV.own d) → vs[p]? = some (V.ref b) → b ≠ a
inductive LR (K : PySem.W.Frag) (mg : Str → Option Value) (P S H : Hp) (σ : L2.St) (ρ : Env) : List RV → List V → Prop
  | nil : LR K mg P S H σ ρ [] []
  | cons {r : RV} {v : V} {rs : List RV} {vs : List V} : lRV K mg P S H σ ρ r v → LR K mg P S H σ ρ rs vs → (∀ a d, r = .own d → v = .ref a → Away a rs vs) → LR K mg P S H σ ρ (r :: rs) (v :: vs)
def lRs (K : PySem.W.Frag) (mg : Str → Option Value) : Lies (List RV) (List V) := LR K mg
def setAll : L2.St → List Nat → List V → L2.St
  | σ, i :: is, v :: vs => setAll (σ.set i (some v)) is vs
  | σ, _, _ => σ
section
variable {K : PySem.W.Frag} {mg : Str → Option Value} {T : List (Addr × Str)} {P P' S S' H H' : Hp} {la : Lk} {σ σ' : L2.St} {ρ ρ' : Env}
theorem LR.imp {σ' : L2.St} {ρ' : Env} : ∀ {rs : List RV} {vs : List V}, LR K mg P S H σ ρ rs vs → (∀ r v (p : Nat), rs[p]? = some r → vs[p]? = some v → lRV K mg P S H σ ρ r v → lRV K mg P' S' H' σ' ρ' r v) → LR K mg P' S' H' σ' ρ' rs vs
  | _, _, .nil, _ => .nil
  | _, _, .cons h r a, i => .cons (i _ _ 0 rfl rfl h) (LR.imp r fun r v p e1 e2 l => i r v (p + 1) (by simpa using e1) (by simpa using e2) l) a
theorem LR.len : ∀ {rs : List RV} {vs : List V}, LR K mg P S H σ ρ rs vs → rs.length = vs.length
  | _, _, .nil => rfl
  | _, _, .cons _ r _ => by rw [List.length_cons, List.length_cons, LR.len r]
theorem LR.vals : ∀ {vs : List V} {ds : List D}, RpL K mg S vs ds → LR K mg P S H σ ρ (ds.map .val) vs
  | _, _, .nil => .nil
  | _, _, .cons h r => .cons h (LR.vals r) fun a d z => by cases z
theorem LR.get : ∀ {rs : List RV} {vs : List V} {p : Nat} {r : RV} {v : V}, LR K mg P S H σ ρ rs vs → rs[p]? = some r → vs[p]? = some v → lRV K mg P S H σ ρ r v
  | _, _, p, r, v, .nil, h, _ => by simp at h
  | _, _, 0, r, v, .cons h _ _, e1, e2 => by simp at e1 e2; subst e1 e2; exact h
  | _, _, p + 1, r, v, .cons _ l _, e1, e2 => LR.get l (by simpa using e1) (by simpa using e2)
/-- names given values, one behind another -/
theorem Rel.puts : ∀ {is : List Nat} {rs : List RV} {vs : List V} {σ : L2.St} {ρ ρ' : Env}, Rel K mg T P la S H σ ρ → LR K mg P S H σ ρ rs vs → Mini.puts is rs ρ = some ρ' → Rel K mg T P la S H (setAll σ is vs) ρ' ∧ is.length = rs.length
  | [], [], _, _, _, _, R, .nil, e => by cases e; exact ⟨R, rfl⟩
  | [], _ :: _, _, _, _, _, R, _, e => by cases e
  | _ :: _, [], _, _, _, _, R, _, e => by cases e
  | i :: is, r :: rs, _, σ, ρ, ρ', R, .cons (v := v) (vs := vs) h l aw, e => by
    unfold Mini.puts at e
    cases e1 : Mini.put i r ρ with
    | none => rw [e1] at e; cases e
    | some ρ1 =>
      rw [e1] at e
      have R1 := R.put e1 h
      obtain ⟨s, hs, hf, hρ⟩ := put_some e1
      have gi : ρ1[i]? = some r.slot := by rw [hρ]; exact List.getElem?_set_self (lt_of_get hs)
      have gj : ∀ j, j ≠ i → ρ1[j]? = ρ[j]? := fun j hj => by rw [hρ]; exact List.getElem?_set_ne (Ne.symm hj)
      have si : (σ.set i (some v))[i]? = some (some v) := List.getElem?_set_self (R.lt hs)
      have l1 : LR K mg P S H (σ.set i (some v)) ρ1 rs vs := l.imp fun r' v' p ep1 ep2 l' => by
        cases r' with
        | val d => exact l'
        | own d =>
          obtain ⟨b, rfl, w, hP, hn⟩ := l'
          refine ⟨b, rfl, w, hP, fun j hj z => ?_⟩
          by_cases hji : j = i
          · subst hji
            rw [si] at z
            cases z
            rw [mutD_of gi] at hj
            cases r with
            | val d' => cases hj
            | own d' => exact aw b d' rfl rfl p d b ep1 ep2 rfl
          · rw [mutD_eq (gj j hji)] at hj
            rw [List.getElem?_set_ne (Ne.symm hji)] at z
            exact hn j hj z
      obtain ⟨R2, hl⟩ := Rel.puts (is := is) R1 l1 e
      exact ⟨R2, by rw [List.length_cons, List.length_cons, hl]⟩
theorem LR.newO (R : Rel K mg T P la S H σ ρ) {p : Addr} {o : HO} (n : H p = none) {rs : List RV} {vs : List V} (l : LR K mg P S H σ ρ rs vs) : LR K mg P S (upd H p o) σ ρ rs vs :=
  l.imp fun r v q e1 e2 l' => by
    cases r with
    | val d => exact l'
    | own d =>
      obtain ⟨a, rfl, w, hP, hn⟩ := l'
      obtain ⟨u, hu, _⟩ := w.obj
      exact ⟨a, rfl, w.mono (Same.refl S) w.1 (fun x hx => by rw [upd_ne (ne_of_none hu n)]; exact hx), hP, hn⟩
end
section
variable {X : Cx} {T : List (Addr × Str)} {W : WX} {F : Ifc} {pos pos' p : Pos} {a b c e : Expr} {A B C E : E} {es : List Expr} {Es : List Mini.E}
abbrev SdRs (X : Cx) (T : List (Addr × Str)) (W : WX) (es : List Expr) (g : Den (List RV)) : Prop := PA X es (TR X.K X.mg T W (lRs X.K X.mg) g)
theorem sdrs_nil : SdRs X T W [] (vRs []) := pa_nil.imp fun σ H Q ⟨P, la, S, ρ, R, q⟩ => q [] S H R (Same.refl _) .nil
theorem sdrs_cons {g : Den RV} {gs : List (Den RV)} (ha : SdE X T W a g) (hs : SdRs X T W es (vRs gs)) (he : starEach (a :: es) X.env = (false, eval a X.env) :: starEach es X.env) : SdRs X T W (a :: es) (vRs (g :: gs)) := by
  refine (pa_cons ha hs he).imp fun σ H Q ⟨P, la, S, ρ, R, q⟩ => ⟨P, la, S, ρ, R, ?_⟩
  rw [vRs] at q
  refine (post.bind (R1 := lRV X.K X.mg) q).imp fun x H1 ⟨S1, ρ1, r, R1, sm1, l1, p1⟩ => ?_
  cases r with
  | val d =>
    refine ⟨P, la, S1, ρ1, R1, ?_⟩
    refine (post.bind (R1 := lRs X.K X.mg) p1).imp fun y H2 ⟨S2, ρ2, rs, R2, sm2, l2, p2⟩ => ?_
    exact p2 _ S2 H2 R2 (Same.refl _) (.cons (show lRV X.K X.mg P S2 H2 σ ρ2 (.val d) x from Rp.mono sm2 l1) l2 fun a d z => by cases z)
  | own d =>
    obtain ⟨a1, rfl, w, hP, hn⟩ := l1
    obtain ⟨o, ho, _⟩ := w.obj
    have Rg := R1.guard w ho hn
    have sp : Same P (upd P a1 o) := same_new hP
    refine ⟨upd P a1 o, la, S1, ρ1, Rg, ?_⟩
    cases hv : vRs gs ρ1 with
    | bad => rw [hv] at p1; exact p1.elim
    | ex c pl ρ2 =>
      rw [hv] at p1
      exact fun cls d S2 H2 R2 sm2 l => p1 cls d S2 H2 (R2.less sp) sm2 l
    | ok rs ρ2 =>
      rw [hv] at p1
      intro y S2 H2 R2 sm2 l2
      have l2 : LR X.K X.mg (upd P a1 o) S2 H2 σ ρ2 rs y := l2
      refine p1 _ S2 H2 (R2.less sp) sm2 (LR.cons ⟨a1, rfl, ?_, hP, fun j hj z => ?_⟩ (l2.imp fun r v q e1 e2 l' => ?_) fun a' d' e1 e2 => ?_)
      · exact w.mono sm2 (R2.dj a1 o upd_same) fun x hx => by
          rw [ho] at hx
          cases hx
          exact R2.prot a1 o upd_same
      · obtain ⟨d', hd⟩ := Option.isSome_iff_exists.mp hj
        obtain ⟨b, q1, _, q2⟩ := R2.mu j d' hd
        rw [z] at q1
        cases q1
        rw [upd_same] at q2
        cases q2
      · cases r with
        | val d => exact l'
        | own d =>
          obtain ⟨b, rfl, w', hP', hn'⟩ := l'
          have ne : b ≠ a1 := fun z => by rw [z, upd_same] at hP'; cases hP'
          rw [upd_ne ne] at hP'
          exact ⟨b, rfl, w', hP', hn'⟩
      · cases e2
        intro p d b q1 q2 z
        have l' := l2.get q1 q2
        obtain ⟨b', e3, _, hP', _⟩ := l'
        cases e3
        rw [z, upd_same] at hP'
        cases hP'
/-! ### a, b = .. -/
def gNs (is : List Nat) : TGs := fun vs σ H Q => vs.length = is.length ∧ Q (setAll σ is vs) H
theorem pgs_ns_nil : PGs X [] (gNs []) := pgs_nil.imp fun vs σ H Q ⟨h, q⟩ => by
  cases vs with
  | nil => exact ⟨rfl, q⟩
  | cons v vs => cases h
theorem pgs_ns_cons {i : Nat} {is : List Nat} {x : Str} (hN : X.N.Nodup) (hi : X.N[i]? = some x) (hx : Loc X.env.scope x) (hf : X.fn x = true ∨ X.env.scope.names.lookup x = some .local) (h2 : PGs X es (gNs is))
    (hs : (assignEach (.Name x p :: es) X.env).map (·.2) = assign (.Name x p) X.env :: (assignEach es X.env).map (·.2)) : PGs X (.Name x p :: es) (gNs (i :: is)) :=
  (pgs_cons (pg_name hN hi hx hf) h2 hs).imp fun vs σ H Q ⟨h, q⟩ => by
    cases vs with
    | nil => cases h
    | cons v vs => exact ⟨v, vs, rfl, by simpa using h, q⟩
theorem setP_go {ts : List Nat} {D : Ends} {σ : L2.St} {H : Hp} (h : TRS X.K X.mg T W (denS F (.setP ts Es)) D σ H) :
    TR X.K X.mg T W (lRs X.K X.mg) (vRs (denL F Es)) σ H fun vs H1 => vs.length = ts.length ∧ D.nx (setAll σ ts vs) H1 ∧ ∀ p, H1 p = none → ∀ o, D.nx (setAll σ ts vs) (upd H1 p o) := by
  obtain ⟨P, la, S, ρ, R, q⟩ := h
  rw [denS] at q
  refine ⟨P, la, S, ρ, R, (postS.to (R1 := lRs X.K X.mg) q).imp fun vs H1 ⟨S1, ρ1, rs, R1, sm, l, p1⟩ => ?_⟩
  have l : LR X.K X.mg P S1 H1 σ ρ1 rs vs := l
  obtain ⟨ρ', e, p2⟩ := postS.ofO p1
  obtain ⟨R2, hl⟩ := R1.puts l e
  exact ⟨by rw [hl, l.len], p2 _ S1 H1 R2 (Same.refl _), fun p hp o => p2 _ S1 _ ((R1.newO hp).puts (LR.newO R1 hp l) e).1 (Same.refl _)⟩
theorem vRs_len : ∀ {gs : List (Den RV)} {ρ ρ' : Env} {rs : List RV}, vRs gs ρ = .ok rs ρ' → rs.length = gs.length
  | [], _, _, _, h => by cases h; rfl
  | g :: gs, ρ, ρ', rs, h => by
    rw [vRs] at h
    obtain ⟨d, ρ1, h1, h2⟩ := bind_ok h
    obtain ⟨os', ρ2, h3, h4⟩ := bind_ok h2
    cases h4
    rw [List.length_cons, List.length_cons, vRs_len h3]
/-- the tuple is made, then taken apart -/
theorem ss_setP {ts : List Nat} {tes : List Expr} {k k2 : Nat} {pt pt2 : Pos} (hc : X.calm = true) (hes : SdRs X T W es (vRs (denL F Es))) (hts : PGs X tes (gNs ts)) (hn : (assignEach tes X.env).length = ts.length) (hst : (assignEach tes X.env).findIdx? (·.1) = none)
    (hs : swapsWithSole [.Tuple tes k pt] (.Tuple es k2 pt2) pos.line X.env = pure false) (hw : swappedStores [.Tuple tes k pt] (.Tuple es k2 pt2) X.env = pure none) (h1 : (assignEach [.Tuple tes k pt] X.env).map (·.2) = [assign (.Tuple tes k pt) X.env]) (hz : ts.length ≤ 100) :
    SdS X T W (.Assign [.Tuple tes k pt] (.Tuple es k2 pt2) pos) (denS F (.setP ts Es)) := by
  refine (ps_asg (pe_tup hes) (pg_tup hc hts hn hst) hs hw h1).imp fun D σ H h => ?_
  obtain ⟨P, la, S, ρ, R, q⟩ := setP_go h
  refine ⟨P, la, S, ρ, R, q.imp fun vs H1 ⟨hl, _, hq⟩ => ⟨by rw [hl, line_eq]; unfold line; omega, fun p hp => ⟨p, vs, rfl, .inl (.inl upd_same), hl, hl, hq p hp _⟩⟩⟩
theorem ss_set2 {i j : Nat} {x y : Str} {k k2 : Nat} {px py pt pt2 : Pos} {Ea Eb : Mini.E} (hc : X.calm = true) (hN : X.N.Nodup) (hi : X.N[i]? = some x) (hj : X.N[j]? = some y) (hij : i ≠ j) (hx : X.env.scope.names.lookup x = some .local) (hy : X.env.scope.names.lookup y = some .local)
    (hes : SdRs X T W [a, b] (vRs (denL F [Ea, Eb]))) (hw : swappedStores [.Tuple [.Name x px, .Name y py] k pt] (.Tuple [a, b] k2 pt2) X.env = pure (some [x, y])) (hs : swapsWithSole [.Tuple [.Name x px, .Name y py] k pt] (.Tuple [a, b] k2 pt2) pos.line X.env = pure false) :
    SdS X T W (.Assign [.Tuple [.Name x px, .Name y py] k pt] (.Tuple [a, b] k2 pt2) pos) (denS F (.setP [i, j] [Ea, Eb])) := by
  refine (ps_par hc hN hi hj hij hx hy hes hw hs).imp fun D σ H h => ?_
  obtain ⟨P, la, S, ρ, R, q⟩ := setP_go h
  refine ⟨P, la, S, ρ, R, q.imp fun vs H1 ⟨hl, hq, _⟩ => ?_⟩
  match vs, hl, hq with
  | [v, w], _, hq => exact ⟨v, w, rfl, hq⟩
theorem ss_set3 {i j l : Nat} {x y z : Str} {k k2 : Nat} {px py pz pt pt2 : Pos} {Ea Eb Ec : Mini.E} (hc : X.calm = true) (hN : X.N.Nodup) (hi : X.N[i]? = some x) (hj : X.N[j]? = some y) (hl : X.N[l]? = some z) (hij : i ≠ j) (hil : i ≠ l) (hjl : j ≠ l)
    (hx : X.env.scope.names.lookup x = some .local) (hy : X.env.scope.names.lookup y = some .local) (hz : X.env.scope.names.lookup z = some .local)
    (hes : SdRs X T W [a, b, c] (vRs (denL F [Ea, Eb, Ec]))) (hw : swappedStores [.Tuple [.Name x px, .Name y py, .Name z pz] k pt] (.Tuple [a, b, c] k2 pt2) X.env = pure (some [x, y, z])) (hs : swapsWithSole [.Tuple [.Name x px, .Name y py, .Name z pz] k pt] (.Tuple [a, b, c] k2 pt2) pos.line X.env = pure false) :
    SdS X T W (.Assign [.Tuple [.Name x px, .Name y py, .Name z pz] k pt] (.Tuple [a, b, c] k2 pt2) pos) (denS F (.setP [i, j, l] [Ea, Eb, Ec])) := by
  refine (ps_par3 hc hN hi hj hl hij hil hjl hx hy hz hes hw hs).imp fun D σ H h => ?_
  obtain ⟨P, la, S, ρ, R, q⟩ := setP_go h
  refine ⟨P, la, S, ρ, R, q.imp fun vs H1 ⟨hl, hq, _⟩ => ?_⟩
  match vs, hl, hq with
  | [u, v, w], _, hq => exact ⟨u, v, w, rfl, hq⟩
/-- taken apart -/
theorem ss_setT {ts : List Nat} {tes : List Expr} {k : Nat} {pt : Pos} (hc : X.calm = true) (he : SdO X T W e (vO E (denE F E))) (hts : PGs X tes (gNs ts)) (hn : (assignEach tes X.env).length = ts.length) (hst : (assignEach tes X.env).findIdx? (·.1) = none)
    (hs : swapsWithSole [.Tuple tes k pt] e pos.line X.env = pure false) (hw : swappedStores [.Tuple tes k pt] e X.env = pure none) (h1 : (assignEach [.Tuple tes k pt] X.env).map (·.2) = [assign (.Tuple tes k pt) X.env]) :
    SdS X T W (.Assign [.Tuple tes k pt] e pos) (denS F (.setT ts E)) := by
  refine (ps_asg he (pg_tup hc hts hn hst) hs hw h1).imp fun D σ H ⟨P, la, S, ρ, R, q⟩ => ⟨P, la, S, ρ, R, ?_⟩
  rw [denS] at q
  refine (postS.to (R1 := lO X.K X.mg) q).imp fun v H1 ⟨S1, ρ1, o, R1, sm, l, p1⟩ => ?_
  obtain ⟨ρ', ez, p2⟩ := postS.ofO p1
  cases e1 : fetch ρ1 o with
  | none => rw [e1] at ez; cases ez
  | some d =>
    rw [e1] at ez
    have w := lO.fetch R1 l e1
    cases d with
    | tup ds =>
      have ez : (if ds.length = ts.length then puts ts (ds.map .val) ρ1 else none) = some ρ' := ez
      split at ez
      · rename_i hl
        obtain ⟨a, vs, rfl, ha, ha', ra⟩ := w.tup R1.sub
        obtain ⟨R2, _⟩ := R1.puts (LR.vals ra) ez
        exact ⟨a, vs, rfl, ha, by rw [ra.length]; exact hl, by rw [ra.length]; exact hl, p2 _ S1 H1 R2 (Same.refl _)⟩
      · cases ez
    | _ => cases ez
/-! ### x[k] = e -/
theorem ps_sput {o i value : Expr} {td ty tv : TE} (hu : X.A.units + 1 < cLine) (ho : PE X o td) (hi : PE X i ty) (hv : PE X value tv) (hs : swapsWith value (some (.Subscript o i pos')) pos.line X.env = pure false) :
    PS X (.Assign [.Subscript o i pos'] value pos) (fun D σ H => tv σ H fun v H1 => td σ H1 fun x H2 => ty σ H2 fun y H3 => rSetL x y v H3 (fun H4 => D.nx σ H4) ∨ rSetD x y v H3 (fun H4 => D.nx σ H4)) := by
  refine ⟨fun pins s σ H D I h => ?_⟩
  refine wpAny_Assign_Subscript (thn (hv.run pins s σ H _ I h) fun r s1 ⟨v, H1, I1, rv, q1⟩ => thn (ho.run pins s1 σ H1 _ I1 q1) fun u s2 ⟨x, H2, I2, rx, q2⟩ => thn (hi.run pins s2 σ H2 _ I2 q2) fun iv s3 ⟨y, H3, I3, ry, q3⟩ => ?_) hs
  rcases q3 with q3 | q3
  · exact thn (set_list pins s3 σ H3 x y v u iv r _ I3 rx ry rv q3) fun _ s4 ⟨H4, I4, q4⟩ => ⟨σ, H4, I4, q4⟩
  · exact thn (set_dict hu pins s3 σ H3 x y v u iv r _ I3 rx ry rv q3) fun _ s4 ⟨H4, I4, q4⟩ => ⟨σ, H4, I4, q4⟩
theorem setAt_ix {ds ds' : List D} {n : Int} {d : D} {vs : List V} (hl : vs.length = ds.length) (h : setAt ds n d = some ds') : ∃ j, ixN vs.length n = some j ∧ ds' = ds.set j d := by
  unfold setAt at h
  unfold ixN
  split at h
  · rename_i hc
    cases h
    rw [if_pos hc.1, if_pos (by omega)]
    exact ⟨_, rfl, rfl⟩
  · split at h
    · rename_i hc
      cases h
      rw [if_neg (by omega), if_pos (by omega)]
      exact ⟨_, rfl, by congr 1; omega⟩
    · cases h
theorem keys_map (kvs : List (Key × V)) (k : Key) (v : V) (ds : List D) (d : D) (S : Hp) {K : PySem.W.Frag} {mg : Str → Option Value} (r : RpL K mg S (kvs.map (·.2)) ds) (rv : Rp K mg S v d) :
    (putKV (kvs.map fun p => keyD p.1) ds (keyD k) d).1 = (putK kvs k v).map (fun p => keyD p.1) ∧ RpL K mg S ((putK kvs k v).map (·.2)) (putKV (kvs.map fun p => keyD p.1) ds (keyD k) d).2 := by
  have hh : hasK (kvs.map fun p => keyD p.1) (keyD k) = kvs.any fun kv => decide (kv.1 = k) := by
    unfold hasK
    rw [List.any_map]
    congr 1
    funext p
    exact keyEq_eq p.1 k
  unfold putKV putK
  rw [hh]
  cases hk : kvs.any fun kv => decide (kv.1 = k) with
  | false =>
    rw [if_neg Bool.false_ne_true, if_neg Bool.false_ne_true]
    refine ⟨by simp, ?_⟩
    rw [List.map_append]
    exact r.append (.one rv)
  | true =>
    rw [if_pos rfl, if_pos rfl]
    clear hh hk
    induction kvs generalizing ds with
    | nil => cases r; exact ⟨rfl, .nil⟩
    | cons p kvs ih =>
      have r : RpL K mg S (p.2 :: kvs.map (·.2)) ds := r
      cases r with
      | @cons _ _ d0 ds h r' =>
        obtain ⟨h1, h2⟩ := ih ds r'
        refine ⟨?_, ?_⟩
        · rw [List.map_cons, List.map_cons, List.map_cons]
          have h1 : (kvs.map fun p => keyD p.1) = (kvs.map fun kv => if kv.1 = k then (kv.1, v) else kv).map fun p => keyD p.1 := h1
          rw [← h1]
          congr 1
          split <;> rfl
        · have h2 : RpL K mg S ((kvs.map fun kv => if kv.1 = k then (kv.1, v) else kv).map (·.2)) (setK (kvs.map fun p => keyD p.1) ds (keyD k) d) := h2
          have e : setK ((p :: kvs).map fun p => keyD p.1) (d0 :: ds) (keyD k) d = (if keyEq (keyD p.1) (keyD k) then d else d0) :: setK (kvs.map fun p => keyD p.1) ds (keyD k) d := rfl
          show RpL K mg S _ (setK ((p :: kvs).map fun p => keyD p.1) (d0 :: ds) (keyD k) d)
          rw [e, List.map_cons, List.map_cons, keyEq_eq]
          by_cases hk : p.1 = k
          · rw [if_pos hk, decide_eq_true hk, if_pos rfl]
            exact .cons rv h2
          · rw [if_neg hk, decide_eq_false hk, if_neg Bool.false_ne_true]
            exact .cons h h2
theorem ss_seti {i : Nat} {x : Str} (hu : X.A.units + 1 < cLine) (hN : X.N[i]? = some x) (hv : Vis X.env.scope x) (hd : (x == ("__debug__" : Str)) = false) (hcd : (x == ("__classdict__" : Str)) = false)
    (hi : SdE X T W b (denE F B)) (he : SdE X T W e (denE F E)) (hs : swapsWith e (some (.Subscript (.Name x p) b pos')) pos.line X.env = pure false) :
    SdS X T W (.Assign [.Subscript (.Name x p) b pos'] e pos) (denS F (.seti i B E)) := by
  refine (ps_sput hu (pe_var hN hv hd hcd) (sdV hi) (sdV he) hs).imp fun D σ H ⟨P, la, S, ρ, R, q⟩ => ⟨P, la, S, ρ, R, ?_⟩
  rw [denS] at q
  refine (postS.to (R1 := lD X.K X.mg) q).imp fun v H1 ⟨S1, ρ1, d, R1, sm1, l1, p1⟩ => ?_
  by_cases ho : (owned i ρ1).isSome = true
  case neg =>
    rw [if_neg ho] at p1
    exact p1.elim
  rw [if_pos ho] at p1
  obtain ⟨d0, hd0⟩ := Option.isSome_iff_exists.mp ho
  obtain ⟨a0, ea0, _, _⟩ := R1.mu i d0 (owned_mut hd0)
  refine ⟨.ref a0, ea0, P, la, S1, ρ1, R1, ?_⟩
  refine (postS.to (R1 := lD X.K X.mg) p1).imp fun y H2 ⟨S2, ρ2, k, R2, sm2, l2, p2⟩ => ?_
  have l1 : Rp X.K X.mg S1 v d := l1
  have rv := l1.mono sm2
  have l2 : Rp X.K X.mg S2 y k := l2
  unfold storeE at p2
  obtain ⟨ρ', ez, p3⟩ := postS.ofO p2
  obtain ⟨c, ec, ez⟩ := Option.bind_eq_some_iff.mp ez
  obtain ⟨c', es', ez⟩ := Option.bind_eq_some_iff.mp ez
  obtain ⟨a, ea, w, hP⟩ := R2.mu i c (owned_mut ec)
  rw [ea0] at ea
  cases ea
  obtain ⟨nS, ⟨vs, ds, rfl, e5, rr⟩ | ⟨kvs, ks, ds, rfl, e5, hk, rr⟩⟩ := w
  · left
    obtain ⟨n, rfl⟩ : ∃ n, k = .int n := by cases k <;> first | exact ⟨_, rfl⟩ | cases es'
    unfold store at es'
    dsimp only at es'
    cases l2
    obtain ⟨ds', h1, rfl⟩ := Option.map_eq_some_iff.mp es'
    obtain ⟨j, h2, rfl⟩ := setAt_ix rr.length h1
    refine ⟨a0, vs, n, j, rfl, rfl, e5, h2, ?_⟩
    exact p3 σ S2 _ (R2.change ez ea0 ⟨nS, .inl ⟨_, _, rfl, upd_same, rr.set rv j⟩⟩) (Same.refl _)
  · right
    unfold store at es'
    dsimp only at es'
    split at es'
    · rename_i hc
      cases es'
      rw [Bool.and_eq_true, decide_eq_true_eq] at hc
      obtain ⟨k', rfl⟩ := keyOk_key hc.1
      have ey := rp_key l2
      subst ey hk
      obtain ⟨m1, m2⟩ := keys_map kvs k' v ds d S2 rr rv
      refine ⟨a0, _, rfl, DPut.k e5 (by have := hc.2; rw [List.length_map] at this; rw [line_eq]; exact this), ?_⟩
      exact p3 σ S2 _ (R2.change ez ea0 ⟨nS, .inr ⟨_, _, _, rfl, upd_same, m1, m2⟩⟩) (Same.refl _)
    · cases es'
/-! ### raise -/
theorem ss_raise {C : Addr} {x : Str} {p2 : Pos} {A : Mini.E} (hc : X.calm = true) (tk : Takes X W) (q : PySem.W.excIn X.K C [.type "ValueError", .type "Exception", .type "BaseException", .type "object"] "ValueError.__new__" = true) (gC : X.mg x = some (.ref C)) (kC : PySem.W.keepIn X.K (.ref C) = true) (r : Raises X (.ref C)) (hg : Gl X x)
    (hnm : x ≠ "TooMany") (he : SdE X T W a (denE F A)) (hs : starEach [a] X.env = (false, eval a X.env) :: starEach [] X.env) (hdb : (x == ("__debug__" : Str)) = false) : SdS X T W (.Raise (some (.Call (.Name x p) [a] [] p2)) none pos) (denS F (.raise x [A])) := by
  refine (ps_raise hc tk (SkE.pmk_own1 PySem.F.excBase_ValueError q gC kC r hg (sdV he) hs hdb)).imp fun D σ H ⟨P, la, S, ρ, R, q⟩ => ⟨P, la, S, ρ, R, ?_⟩
  rw [denS] at q
  have e : vVs (denL F [A]) ρ = (vV (denE F A) ρ).bind fun d ρ => .ok [d] ρ := by
    rw [denL, denL, vVs]
    rfl
  dsimp only at q
  rw [e] at q
  cases hv : vV (denE F A) ρ with
  | bad => rw [hv] at q; exact q.elim
  | ex c pl ρ1 => rw [hv] at q; exact fun cls d S1 H1 R1 sm l => q cls d σ S1 H1 R1 sm l
  | ok d ρ1 =>
    rw [hv] at q
    have q : postS X.K X.mg T W P la S D (if x = "TooMany" then .ex x [d] ρ1 else .ex x [] ρ1) := q
    rw [if_neg hnm] at q
    exact fun v S1 H1 R1 sm l => q (.ref C) none σ S1 H1 R1 sm ⟨C, gC, rfl, .inl ⟨rfl, rfl⟩⟩
end
end Mini

/- M4c -/
set_option Elab.async false
set_option linter.all false
set_option maxRecDepth 100000
set_option maxHeartbeats 1000000
/-! MINI 4c: displays of dicts. -/
namespace Mini
open PySem PySem.Spec PyProof.Rows L2 LamX
def lPs (K : PySem.W.Frag) (mg : Str → Option Value) : Lies (List D × List D) (List (V × V)) := fun P S H σ ρ p ps => RpL K mg S (ps.map (·.1)) p.1 ∧ RpL K mg S (ps.map (·.2)) p.2
section
variable {X : Cx} {T : List (Addr × Str)} {W : WX} {F : Ifc} {pos pos' p : Pos} {a b : Expr} {A B : E} {ks : List (Option Expr)} {vs : List Expr} {Ks Vs : List Mini.E}
structure SdPs (X : Cx) (T : List (Addr × Str)) (W : WX) (F : Ifc) (pos : Pos) (ks : List (Option Expr)) (vs : List Expr) (Ks Vs : List Mini.E) : Prop where
  ex : ∃ trs, PPs X pos ks vs trs ∧ ∀ σ H Q, (∃ P la S ρ, Rel X.K X.mg T P la S H σ ρ ∧ post X.K X.mg T W (lPs X.K X.mg) P la S σ Q (vKV (denL F Ks) (denL F Vs) ρ)) → tPairs trs σ H Q
theorem sdps_nil : SdPs X T W F pos [] [] [] [] := ⟨[], pps_nil, fun σ H Q ⟨P, la, S, ρ, R, q⟩ => q [] S H R (Same.refl _) ⟨.nil, .nil⟩⟩
theorem sdps_cons (ha : SdE X T W a (denE F A)) (hb : SdE X T W b (denE F B)) (h : SdPs X T W F pos ks vs Ks Vs) : SdPs X T W F pos (some a :: ks) (b :: vs) (A :: Ks) (B :: Vs) := by
  obtain ⟨trs, h1, h2⟩ := h.ex
  refine ⟨_, pps_cons (sdV ha) (sdV hb) h1, fun σ H Q ⟨P, la, S, ρ, R, q⟩ => ⟨P, la, S, ρ, R, ?_⟩⟩
  rw [denL, denL, vKV] at q
  refine (post.bind (R1 := lD X.K X.mg) q).imp fun x H1 ⟨S1, ρ1, k, R1, sm1, l1, p1⟩ => ⟨P, la, S1, ρ1, R1, ?_⟩
  refine (post.bind (R1 := lD X.K X.mg) p1).imp fun y H2 ⟨S2, ρ2, v, R2, sm2, l2, p2⟩ => h2 _ _ _ ⟨P, la, S2, ρ2, R2, ?_⟩
  refine (post.bind (R1 := lPs X.K X.mg) p2).imp fun ps H3 ⟨S3, ρ3, kv, R3, sm3, l3, p3⟩ => ?_
  have l1 : Rp X.K X.mg S1 x k := l1
  have l2 : Rp X.K X.mg S2 y v := l2
  exact p3 _ S3 H3 R3 (Same.refl _) ⟨.cons (l1.mono (sm2.trans sm3)) l3.1, .cons (l2.mono sm3) l3.2⟩
theorem merge_map {K : PySem.W.Frag} {mg : Str → Option Value} {S : Hp} : ∀ (more kvs : List (Key × V)) (ds es : List D), RpL K mg S (kvs.map (·.2)) ds → RpL K mg S (more.map (·.2)) es →
    (mergeKV (kvs.map fun p => keyD p.1) ds (more.map fun p => keyD p.1) es).1 = (mergeK kvs more).map (fun p => keyD p.1) ∧ RpL K mg S ((mergeK kvs more).map (·.2)) (mergeKV (kvs.map fun p => keyD p.1) ds (more.map fun p => keyD p.1) es).2
  | [], kvs, ds, es, r, r2 => by
    have r2 : RpL K mg S [] es := r2
    cases r2
    exact ⟨rfl, r⟩
  | p :: more, kvs, ds, es, r, r2 => by
    have r3 : RpL K mg S (p.2 :: more.map (·.2)) es := r2
    clear r2
    cases r3 with
    | @cons _ _ d es h r2 =>
      obtain ⟨m1, m2⟩ := keys_map kvs p.1 p.2 ds d S r h
      have e : mergeKV (kvs.map fun p => keyD p.1) ds ((p :: more).map fun p => keyD p.1) (d :: es) = mergeKV (putKV (kvs.map fun p => keyD p.1) ds (keyD p.1) d).1 (putKV (kvs.map fun p => keyD p.1) ds (keyD p.1) d).2 (more.map fun p => keyD p.1) es := rfl
      rw [e, m1]
      exact merge_map more (putK kvs p.1 p.2) _ es m2 r2
theorem keys_of {K : PySem.W.Frag} {mg : Str → Option Value} {S : Hp} : ∀ {ps : List (V × V)} {ks : List D}, RpL K mg S (ps.map (·.1)) ks → ks.all keyOk = true → ∃ kvs : List (Key × V), ps = kvs.map (fun kv => (kV kv.1, kv.2)) ∧ ks = kvs.map (fun p => keyD p.1)
  | [], ks, r, h => by
    have r : RpL K mg S [] ks := r
    cases r
    exact ⟨[], rfl, rfl⟩
  | (x, y) :: ps, ks, r, h => by
    have r3 : RpL K mg S (x :: ps.map (·.1)) ks := r
    clear r
    cases r3 with
    | @cons _ _ k ks h1 r =>
      rw [List.all_cons, Bool.and_eq_true] at h
      obtain ⟨k', rfl⟩ := keyOk_key h.1
      have e := rp_key h1
      subst e
      obtain ⟨kvs, rfl, rfl⟩ := keys_of r h.2
      exact ⟨(k', y) :: kvs, rfl, rfl⟩
theorem sd_dict (h : SdPs X T W F pos ks vs Ks Vs) (hall : ks.all (·.isSome) = true) (hl : ks.length = vs.length) (h0 : ks ≠ []) (h15 : ks.length ≤ 15) : SdE X T W (.Dict ks vs pos) (denE F (.dict Ks Vs)) := by
  obtain ⟨trs, h1, h2⟩ := h.ex
  refine (pe_disp h1 hall hl h0 h15).imp fun σ H Q ⟨P, la, S, ρ, R, q⟩ p hp => h2 _ _ _ ?_
  rw [denE] at q
  dsimp only at q
  have hP : P p = none := none_of_same R.prot hp
  have Rg : Rel X.K X.mg T (upd P p (.dK [])) la S (upd H p (.dK [])) σ ρ := (R.newO hp).guard (d := .dic [] []) ⟨none_of_same R.sub hp, .inr ⟨[], [], [], rfl, upd_same, rfl, .nil⟩⟩ upd_same (mutD_ne R hp)
  have sp : Same P (upd P p (.dK [])) := same_new hP
  refine ⟨upd P p (.dK []), la, S, ρ, Rg, ?_⟩
  cases hv : vKV (denL F Ks) (denL F Vs) ρ with
  | bad => rw [hv] at q; exact q.elim
  | ex c pl ρ1 =>
    rw [hv] at q
    exact fun cls d S2 H2 R2 sm2 l => q cls d S2 H2 (R2.less sp) sm2 l
  | ok kv ρ1 =>
    rw [hv] at q
    intro ps S2 H2 R2 sm2 l2
    have l3 : RpL X.K X.mg S2 (ps.map fun p => p.1) kv.1 := l2.1
    have l4 : RpL X.K X.mg S2 (ps.map fun p => p.2) kv.2 := l2.2
    have q : post X.K X.mg T W (lRV X.K X.mg) P la S σ Q (if kv.1.all keyOk && decide (kv.1.length ≤ 15) then .ok (.own (.dic (mergeKV [] [] kv.1 kv.2).1 (mergeKV [] [] kv.1 kv.2).2)) ρ1 else .bad) := q
    split at q
    · rename_i hc
      rw [Bool.and_eq_true, decide_eq_true_eq] at hc
      obtain ⟨kvs, rfl, hk⟩ := keys_of l3 hc.1
      rw [List.map_map] at l4
      have l4 : RpL X.K X.mg S2 (kvs.map (·.2)) kv.2 := l4
      obtain ⟨m1, m2⟩ := merge_map kvs [] [] kv.2 (.nil (K := X.K) (mg := X.mg) (S := S2)) l4
      have Hp2 : H2 p = some (.dK []) := R2.prot _ _ upd_same
      refine ⟨Hp2, kvs, rfl, by have := hc.2; rw [hk, List.length_map] at this; exact this, ?_⟩
      have hS := R2.dj p _ upd_same
      have R3 := R2.prot_change (o' := .dK (mergeK [] kvs)) hS ⟨fun ps z => (by cases z), fun c q z => (by unfold CodeO at z; cases z)⟩
      refine q (.ref p) S2 _ (R3.less (same_new hP)) sm2 ⟨p, rfl, ⟨hS, .inr ⟨mergeK [] kvs, _, _, rfl, upd_same, ?_, ?_⟩⟩, hP, fun j hj z => ?_⟩
      · rw [hk]; exact m1
      · rw [hk]; exact m2
      · obtain ⟨d', hd⟩ := Option.isSome_iff_exists.mp hj
        obtain ⟨b, q1, _, q2⟩ := R3.mu j d' hd
        rw [z] at q1
        cases q1
        rw [upd_same] at q2
        cases q2
    · exact q.elim
theorem sd_dict0 : SdE X T W (.Dict [] [] pos) (denE F (.dict [] [])) := by
  refine pe_dnewK.imp fun σ H Q ⟨P, la, S, ρ, R, q⟩ p hp => ?_
  rw [denE] at q
  dsimp only at q
  have q : post X.K X.mg T W (lRV X.K X.mg) P la S σ Q (.ok (.own (.dic [] [])) ρ) := q
  exact q (.ref p) S _ (R.newO hp) (Same.refl _) ⟨p, rfl, ⟨none_of_same R.sub hp, .inr ⟨[], [], [], rfl, upd_same, rfl, .nil⟩⟩, none_of_same R.prot hp, mutD_ne R hp⟩
end
end Mini

/- M5 -/
set_option Elab.async false
set_option linter.all false
set_option maxRecDepth 100000
set_option maxHeartbeats 1000000
/-! MINI 5: a def by its body. -/
namespace Mini
open PySem PySem.Spec PyProof.Rows L2 LamX
theorem outsOf_get : ∀ {ino : List Bool} {ρ : Env} {outs ds : List D}, outsOf ino ρ = some outs → ds.length = ino.length → ∀ p : Nat,
    (ino[p]? = some true → ∃ o, ρ[p]? = some (Slot.ref o) ∧ (putOuts ino ds outs)[p]? = some o) ∧ (ino[p]? = some false → (putOuts ino ds outs)[p]? = ds[p]?)
  | [], ρ, outs, ds, h, hl, p => by simp
  | true :: bs, [], outs, ds, h, hl, p => by simp [outsOf] at h
  | false :: bs, [], outs, ds, h, hl, p => by simp [outsOf] at h
  | true :: bs, .no :: ss, outs, ds, h, hl, p => by simp [outsOf] at h
  | true :: bs, .val _ :: ss, outs, ds, h, hl, p => by simp [outsOf] at h
  | true :: bs, .own _ :: ss, outs, ds, h, hl, p => by simp [outsOf] at h
  | true :: bs, .lk _ :: ss, outs, ds, h, hl, p => by simp [outsOf] at h
  | true :: bs, .ref d :: ss, outs, [], h, hl, p => by simp at hl
  | false :: bs, _ :: ss, outs, [], h, hl, p => by simp at hl
  | true :: bs, .ref d :: ss, outs, d0 :: ds, h, hl, p => by
    unfold outsOf at h
    obtain ⟨os, h1, rfl⟩ := Option.map_eq_some_iff.mp h
    have ih := outsOf_get (ds := ds) h1 (by simpa using hl)
    rw [putOuts]
    cases p with
    | zero => exact ⟨fun _ => ⟨d, rfl, rfl⟩, fun z => by simp at z⟩
    | succ p => simpa using ih p
  | false :: bs, s :: ss, outs, d0 :: ds, h, hl, p => by
    unfold outsOf at h
    have ih := outsOf_get (ds := ds) h (by simpa using hl)
    rw [putOuts]
    cases p with
    | zero => exact ⟨fun z => by simp at z, fun _ => rfl⟩
    | succ p => simpa using ih p
section
variable {K : PySem.W.Frag} {mg : Str → Option Value} {T : List (Addr × Str)} {P S S' H H' : Hp} {la : Lk} {σ σ' : L2.St} {ρ ρ' : Env}
/-- more names, without content -/
theorem Rel.ext (R : Rel K mg T P la S H σ ρ) (hk : la.lk = fun _ => none) (n : Nat) : Rel K mg T P la S H (σ ++ List.replicate n none) (ρ ++ List.replicate n .no) := by
  have hl := R.len
  have old : ∀ {j : Nat} {s : Slot}, (ρ ++ List.replicate n .no)[j]? = some s → s ≠ .no → ρ[j]? = some s ∧ j < ρ.length := fun {j s} h hn => by
    by_cases hj : j < ρ.length
    · rw [List.getElem?_append_left hj] at h
      exact ⟨h, hj⟩
    · rw [List.getElem?_append_right (by omega), List.getElem?_replicate] at h
      split at h
      · exact absurd (Option.some.inj h).symm hn
      · cases h
  have sg : ∀ {j : Nat}, j < ρ.length → (σ ++ List.replicate n none)[j]? = σ[j]? := fun hj => List.getElem?_append_left (by omega)
  have mo : ∀ {j : Nat} {d : D}, mutD (ρ ++ List.replicate n .no) j = some d → mutD ρ j = some d ∧ j < ρ.length := fun {j d} h => by
    obtain ⟨s, e1, e2⟩ := mutD_some h
    obtain ⟨q1, q2⟩ := old e1 fun z => by rw [z] at e2; cases e2
    exact ⟨by rw [mutD_of q1]; exact e2, q2⟩
  refine ⟨R.sub, R.prot, R.dj, R.nt, R.tabs, R.tabN, by simp [hl], fun j d h => ?_, fun j d h => ?_, fun j s h hf => ?_, fun j d h => (by rw [hk] at h; cases h), fun j k b hjk h1 h2 h3 => ?_⟩
  · obtain ⟨q1, q2⟩ := old h fun z => by cases z
    rw [sg q2]; exact R.val j d q1
  · obtain ⟨q1, q2⟩ := mo h
    rw [sg q2]; exact R.mu j d q1
  · obtain ⟨q1, q2⟩ := old h fun z => by rw [z] at hf; cases hf
    rw [sg q2]; exact R.fix j s q1 hf
  · obtain ⟨d1, h1⟩ := Option.isSome_iff_exists.mp h1
    obtain ⟨d2, h2⟩ := Option.isSome_iff_exists.mp h2
    obtain ⟨q1, l1⟩ := mo h1
    obtain ⟨q2, l2⟩ := mo h2
    rw [sg l1] at h3
    rw [sg l2]
    exact R.inj j k b hjk (by rw [q1]; rfl) (by rw [q2]; rfl) h3
/-- at the end: the parameters as they were given, the lent ones with their new contents -/
theorem Rel.args {ino : List Bool} {ds outs : List D} {vs : List V} (hl : ino.length = ds.length) (vl : vs.length = ds.length) (R₀ : Rel K mg T P la S H (vs.map some) (startSlots ino ds)) (hk : la.lk = fun _ => none)
    (R : Rel K mg T P la S' H' σ' ρ') (sm : Same S S') (ho : outsOf ino ρ' = some outs) :
    Rel K mg T P la S' H' (vs.map some) (startSlots ino (putOuts ino ds outs)) ∧ ∀ r v, lRV K mg P S' H' σ' ρ' r v → lRV K mg P S' H' (vs.map some) (startSlots ino (putOuts ino ds outs)) r v := by
  have hl' : ino.length = (putOuts ino ds outs).length := by rw [putOuts_len]; exact hl
  have og := outsOf_get ho hl.symm
  -- a lent parameter
  have lent : ∀ {p : Nat} {o : D}, ino[p]? = some true → (putOuts ino ds outs)[p]? = some o → ∃ a, la.ad p = some a ∧ (vs.map some)[p]? = some (some (V.ref a)) ∧ ρ'[p]? = some (.ref o) ∧ σ'[p]? = some (some (V.ref a)) := fun {p o} h1 h2 => by
    obtain ⟨o', e1, e2⟩ := (og p).1 h1
    rw [h2] at e2
    cases e2
    have hp := lt_of_get h1
    obtain ⟨d, hd⟩ : ∃ d, ds[p]? = some d := ⟨_, List.getElem?_eq_getElem (by omega)⟩
    obtain ⟨a, q1, q2⟩ := R₀.fix p _ (startSlots_at hl h1 hd) rfl
    obtain ⟨b, q3, q4⟩ := R.fix p _ e1 rfl
    rw [q1] at q3
    cases q3
    exact ⟨a, q1, q2, e1, q4⟩
  have mset : ∀ {p : Nat} {d : D}, mutD (startSlots ino (putOuts ino ds outs)) p = some d → ino[p]? = some true ∧ (putOuts ino ds outs)[p]? = some d := fun {p d} h => by
    obtain ⟨s, e1, e2⟩ := mutD_some h
    obtain ⟨b, d', q1, q2, rfl⟩ := startSlots_get hl' e1
    cases b with
    | true => cases e2; exact ⟨q1, q2⟩
    | false => cases e2
  refine ⟨⟨R.sub, R.prot, R.dj, R.nt, R.tabs, R.tabN, by rw [List.length_map, startSlots_len hl', putOuts_len]; exact vl, fun p d h => ?_, fun p d h => ?_, fun p s h hf => ?_, fun p d h => (by rw [hk] at h; cases h), fun p q b hpq h1 h2 h3 => ?_⟩, fun r v l => ?_⟩
  · obtain ⟨b, d', q1, q2, e⟩ := startSlots_get hl' h
    cases b with
    | true => cases e
    | false =>
      cases e
      rw [(og p).2 q1] at q2
      obtain ⟨v, e1, r⟩ := R₀.val p _ (startSlots_at hl q1 q2)
      exact ⟨v, e1, r.mono sm⟩
  · obtain ⟨q1, q2⟩ := mset h
    obtain ⟨a, _, e2, e3, e4⟩ := lent q1 q2
    obtain ⟨b, e5, w, hP⟩ := R.mu p d (by rw [mutD_of e3]; rfl)
    rw [e4] at e5
    cases e5
    exact ⟨a, e2, w, hP⟩
  · obtain ⟨b, d', q1, q2, e⟩ := startSlots_get hl' h
    cases b with
    | false => rw [e] at hf; cases hf
    | true =>
      obtain ⟨a, e1, e2, _, _⟩ := lent q1 q2
      exact ⟨a, e1, e2⟩
  · obtain ⟨d1, h1⟩ := Option.isSome_iff_exists.mp h1
    obtain ⟨d2, h2⟩ := Option.isSome_iff_exists.mp h2
    obtain ⟨q1, r1⟩ := mset h1
    obtain ⟨q2, r2⟩ := mset h2
    obtain ⟨a, _, e2, e3, e4⟩ := lent q1 r1
    obtain ⟨a', _, e2', e3', e4'⟩ := lent q2 r2
    rw [e2] at h3
    cases h3
    rw [e2']
    intro z
    cases z
    exact R.inj p q b hpq (by rw [mutD_of e3]; rfl) (by rw [mutD_of e3']; rfl) e4 e4'
  · cases r with
    | val d => exact l
    | own d =>
      obtain ⟨a, rfl, w, hP, hn⟩ := l
      refine ⟨a, rfl, w, hP, fun j hj z => ?_⟩
      obtain ⟨d1, h1⟩ := Option.isSome_iff_exists.mp hj
      obtain ⟨q1, r1⟩ := mset h1
      obtain ⟨b, _, e2, e3, e4⟩ := lent q1 r1
      rw [z] at e2
      cases e2
      exact hn j (by rw [mutD_of e3]; rfl) e4
end
/-- the rule for a def, its own code object told -/
theorem FunD_okC {P : Program} {w : World} {K : PySem.W.Frag} {mg : Str → Option Value} {base : Heap} {x qual : Str} {params : Arguments} {body : List Stmt} {scope : Scope} {dvs : List V} {kws : List (Str × V)} {f : Addr} {fd : FuncData}
    {CX : CXT} {N ps : List Str} {k : Nat} {sp : Sp} (F : FunD K x qual params body scope dvs kws f fd) (S : FnScope N ps scope) (len : ∀ vs H Q E, sp vs H Q E → vs.length = ps.length)
    (hbody : ∀ (A : Around) (outer : List PySem.Env) (s : Shared) (H : Hp) (vs : List V) (Q : VK) (E : XK), Room k (A.deeper (envOfC qual scope s.heap.objs.size f fd.code)) → sp vs H Q E →
      ∃ t, PSs (cxOf CX P w K mg base N qual scope f fd.code A outer s H E) body t ∧ t { nx := fun _ H' => Q .non H', rt := Q } (start N vs) H) : FnOk P w K mg base CX (k + 1) f fd ps sp := by
  obtain ⟨oc, od, dV, kV, doc, pm, an, cdv, ct, osl, rfl, lk, hcd, _, _⟩ := F.ex
  exact fn_of lk hcd S len fun A outer s H vs Q E hr hsp => hbody A outer s H vs Q E hr hsp
/-- THE RULE: a def of the text, by what its body is told to compute -/
theorem fn_ok {P : Program} {w : World} {K : PySem.W.Frag} {mg : Str → Option Value} {base : Heap} {T : List (Addr × Str)} {F : Ifc} {fn : Fn} {qual : Str} {params : Arguments} {body : List Stmt} {scope : Scope} {dvs : List V} {f : Addr} {fd : FuncData} {k : Nat}
    (FD : FunD K fn.name qual params body scope dvs [] f fd) (Sc : FnScope fn.N fn.pars scope) (hN : fn.pars.length ≤ fn.N.length)
    (hbody : ∀ (A : Around) (outer : List PySem.Env) (s : Shared) (H : Hp) (E : XK), Room k (A.deeper (envOfC qual scope s.heap.objs.size f fd.code)) →
      SdB (cxOf (L2.CX P w) P w K mg base fn.N qual scope f fd.code A outer s H E) T (wx E) body (denB F fn.body)) :
    FnOk P w K mg base (L2.CX P w) (k + 1) f fd fn.pars (spM K mg T fn.pars.length fn.ino (runFn F fn)) := by
  refine FunD_okC FD Sc (fun vs H Q E ⟨_, _, _, ds, _, _, h1, h2, _⟩ => by rw [h1, h2]) fun A outer s H vs Q E hr hsp => ⟨_, hbody A outer s H E hr, ?_⟩
  obtain ⟨P', la, S, ds, R, hl, vl, dl, hk, hq⟩ := hsp
  have e1 : L2.start fn.N vs = vs.map some ++ List.replicate (fn.N.length - fn.pars.length) none := by unfold L2.start; rw [vl, dl]
  rw [e1]
  refine ⟨P', la, S, startEnv fn ds, R.ext hk _, ?_⟩
  unfold runFn at hq
  rw [if_pos dl] at hq
  cases hb : denB F fn.body (startEnv fn ds) with
  | nx ρ' =>
    rw [hb] at hq
    dsimp only at hq
    cases ho : outsOf fn.ino ρ' with
    | none => rw [ho] at hq; exact hq.elim
    | some outs =>
      rw [ho] at hq
      intro σ' S' H' R' sm
      obtain ⟨R2, _⟩ := R.args hl vl hk R' sm ho
      exact hq .non S' H' R2 sm .non
  | rt r ρ' =>
    rw [hb] at hq
    dsimp only at hq
    cases ho : outsOf fn.ino ρ' with
    | none => rw [ho] at hq; exact hq.elim
    | some outs =>
      rw [ho] at hq
      intro v σ' S' H' R' sm l
      obtain ⟨R2, h2⟩ := R.args hl vl hk R' sm ho
      exact hq v S' H' R2 sm (h2 r v l)
  | ex c pl ρ' =>
    rw [hb] at hq
    dsimp only at hq
    cases ho : outsOf fn.ino ρ' with
    | none => rw [ho] at hq; exact hq.elim
    | some outs =>
      rw [ho] at hq
      intro cls d σ' S' H' R' sm l
      obtain ⟨R2, _⟩ := R.args hl vl hk R' sm ho
      exact hq cls d S' H' R2 sm l
  | bk ρ' => rw [hb] at hq; exact hq.elim
  | ct ρ' => rw [hb] at hq; exact hq.elim
  | bad => rw [hb] at hq; exact hq.elim
end Mini

/- M4d -/
set_option Elab.async false
set_option linter.all false
set_option maxRecDepth 100000
set_option maxHeartbeats 1000000
/-! MINI 4d: an exception caught and kept as a value. -/
namespace Mini
open PySem PySem.Spec PyProof.Rows L2 LamX
/-- an untracked object, younger than the entry, is tracked as an exception -/
theorem inv_exc {X : Cx} {pins : List (Addr × Obj)} {σ : L2.St} {H : Hp} {s : Shared} {a : Addr} {oe : Obj} {cls : Value} {d : Option Addr} (I : Inv X ((a, oe) :: pins) σ H s) (hz : Zc cls d oe) (hd : ∃ vs, oe.data = .fields vs) (hx : ∀ b, b ∉ X.ex)
    (h0 : ∀ o, X.s_0.heap.get? a = some o → X.H_0 a ≠ none) (hp : ∀ p ∈ X.pn ++ pins, p.1 ≠ a) : Inv X pins σ (upd H a (ExH cls d a)) s := by
  obtain ⟨e, na, nL, nF, nc⟩ := I.pin (a, oe) (List.mem_append_right _ List.mem_cons_self)
  have e : s.heap.get? a = some oe := e
  have na : H a = none := na
  refine ⟨I.ok, I.os, I.bare, ⟨I.base.keep, I.base.slot, fun b o h1 h2 h3 => ?_, I.base.there, fun b xs h => ?_, fun b o u h => ?_, fun b ps h => ?_⟩, I.loc, I.cell, ?_, fun x c h => ?_, fun p h => ?_, fun b u h => ?_, I.len⟩
  · by_cases z : b = a
    · subst z; exact absurd h2 (h0 o h1)
    · rw [upd_ne z]; exact I.base.free b o h1 h2 h3
  · have q := I.base.tups b xs h
    rw [upd_ne (ne_of_none q na)]; exact q
  · have q := I.base.frzs b o u h
    rw [upd_ne (ne_of_none q na)]; exact q
  · obtain ⟨m, q⟩ := I.base.tbls b ps h
    exact ⟨m, by rw [upd_ne (ne_of_none q na)]; exact q⟩
  · rw [upd_ne (Ne.symm nL)]; exact I.free
  · have hc := I.freeC x c h
    rw [upd_ne fun z => by
      obtain ⟨v, o, ho, hdo⟩ := I.cell x c h
      rw [z, e] at ho
      cases ho
      exact nc v hdo]
    exact hc
  · have q := I.pin p (by
      rcases List.mem_append.mp h with h | h
      · exact List.mem_append_left _ h
      · exact List.mem_append_right _ (List.mem_cons_of_mem _ h))
    exact ⟨q.1, by rw [upd_ne (hp p h)]; exact q.2.1, q.2.2⟩
  · by_cases z : b = a
    · subst z
      rw [upd_same] at h
      cases h
      exact ⟨⟨oe, e, hz, hd⟩, ⟨oe, e⟩, fun h1 h2 ⟨o, q1, q2, q3⟩ st => ⟨o, st _ q1, q2, q3⟩⟩
    · rw [upd_ne z] at h
      exact (I.hok b u h).stay (fun _ _ _ q => q) (fun b' q => by rw [upd_ne (ne_of_none q na)]; exact q) fun b' xs q => by rw [upd_ne (ne_of_none q na)]; exact q
/-- what 'except x as n: y = n' wishes of an exception of the body: it is kept at j -/
def wKeep (K : PySem.W.Frag) (c : Value) (i j : Nat) (D : Ends) : WX := fun cls d σ H =>
  PySem.W.exmOne K cls c = some true ∧ ∀ a, H a = none → D.nx (((σ.set i (some (.ref a))).set j (some (.ref a))).set i none) (upd H a (ExH cls d a))
section
variable {X : Cx} {x n y : Str} {c : Value} {i j : Nat} {body : List Stmt} {np p1 p2 p3 pos pos' : Pos} {tb : WX → TS}
theorem ps_try_keep (hs : X.stack = X.env :: X.outer) (hf : X.env.frame = some X.env.locals) (hN : X.N.Nodup) (hi : X.N[i]? = some n) (hj : X.N[j]? = some y) (hln : X.env.kindOf n = some .local) (hly : X.env.scope.names.lookup y = some .local) (hc : Names X x c) (hex : X.ex = []) (hij : i ≠ j)
    (hdn : (n == ("__debug__" : Str)) = false) (hcn : (n == ("__classdict__" : Str)) = false)
    (hb : ∀ (W : WX) (pn : List (Addr × Obj)) (xe : Value → Shared → Prop), Takes (X.tr pn xe) W → PassesOwn (model X.prog X.w) X.A X.env xe → PSs (X.tr pn xe) body (tb W)) :
    PS X (.Try body [.ExceptHandler (some (.Name x np)) (some n) [.Assign [.Name y p1] (.Name n p2) p3] pos'] [] [] pos) (fun D σ H => tb (wKeep X.K c i j D) D σ H) := by
  refine ⟨fun pins s σ H D I h => ?_⟩
  have ok := I.ok
  have hfr : X.A.frames = some (X.env :: X.outer) := by rw [ok.frames, hs]
  have hloc : Loc X.env.scope n := .inl hln
  refine wpAny_Try_except ?_
  refine wpAny_mono ((hb (wKeep X.K c i j D) (X.pn ++ pins) (fun e s₁ => wpAny (model X.prog X.w) X.A (noteFrame e X.env) (fun _ s₂ => wpAny (model X.prog X.w) X.A (setFlight e none) (fun _ s₃ =>
    wpAny (model X.prog X.w) X.A (handleBy e X.env [.ExceptHandler (some (.Name x np)) (some n) [.Assign [.Name y p1] (.Name n p2) p3] pos']) (SP X pins D) X.xe s₃) X.xe s₂) X.xe s₁) (fun u s' xx => ?_) PassesOwn.looking).run [] s σ H D (I.toTry _) h) (fun f s1 hsp => ?_) (fun e s1 he => he)
  · obtain ⟨a, B, sI, pins', σ', H', cls, d, rfl, J', nb, up, sky, na, os, ag, hb1, hyes⟩ := xx
    have J : Inv X pins σ' H' sI := J'.ofTry ok
    have sky' : Sky B (X.env :: X.outer) a (Zc cls d) X.env.locals s'.heap := by rw [← hs]; exact sky
    show wpAny (model X.prog X.w) X.A (noteFrame (.ref a) X.env) _ _ _
    refine Sky.land Zc.steady hfr hf sky' fun h3 fl3 up3 => ?_
    have J3 : Inv X pins σ' H' { s' with heap := h3 } := J.landed nb fl3.1 (up.trans up3) os ag
    obtain ⟨oe3, vs3, he3, hz3, hd3⟩ := fl3.there
    have notFr : ∀ {h : Heap} {o : Obj} {vs : Array Value}, h.FunFrames B (X.env :: X.outer) → h.get? a = some o → o.data = .fields vs → a ∉ frs (X.env :: X.outer) := fun {h o vs} ff e dd hm => by
      obtain ⟨_, o', e', hnf⟩ := ff.mem hm
      rw [e] at e'; cases e'
      exact hnf _ dd
    have nfr := notFr fl3.2.2.1 he3 hd3
    have nL : a ≠ X.env.locals := fun z => nfr (List.mem_filterMap.mpr ⟨X.env, List.mem_cons_self, by rw [hf, z]⟩)
    have nF : a ∉ X.fs := fun hm => by
      obtain ⟨e, he, q⟩ := List.mem_filterMap.mp hm
      exact nfr (List.mem_filterMap.mpr ⟨e, List.mem_cons_of_mem _ he, q⟩)
    -- it is young
    have nB : B.get? a = none := fl3.2.1
    have young : ∀ o, X.s_0.heap.get? a = some o → X.H_0 a ≠ none := fun o e z => by
      have q := J.base.keep a o e z nF (by rw [hex]; exact fun z => nomatch z)
      rw [nb a o q (by rw [hs]; exact nfr)] at nB
      cases nB
    have apart : ∀ p ∈ X.pn ++ pins, p.1 ≠ a := fun p hp z => by
      obtain ⟨q, _⟩ := J.pin p hp
      rw [z] at q
      rw [nb a _ q (by rw [hs]; exact nfr)] at nB
      cases nB
    have S3 := J3.suite he3 hd3 na nL nF
    refine wpAny_handleBy_cons (codeAny_handlers_test ?_) (by intro q; cases q)
    have LT : PySem.W.Looks (model X.prog X.w) h3 (typeOf (.ref a)) cls := fun A Q E s k q => wpAny_typeOf_ref (k _ _ he3) (by rw [hz3.1]; exact q)
    have LM := PySem.W.exm_one (M := model X.prog X.w) (J3.kIn) LT hb1
    have test : ∀ {Q : Value → Shared → Prop} {E : Value → Shared → Prop}, Q c { s' with heap := h3 } → wpAny (model X.prog X.w) (X.A.mark (some (.ref a))) (eval (.Name x np) X.env) Q E { s' with heap := h3 } := fun {Q E} q => by
      obtain ⟨hg, hdbg, hm | ⟨hm, hv, hnn⟩⟩ := hc
      · exact ld_glob (X := X.suite a ((a, oe3) :: (X.pn ++ pins))) S3 hg hm q hdbg
      · exact ld_blt (X := X.suite a ((a, oe3) :: (X.pn ++ pins))) S3 hg hm hv q hnn hdbg
    refine test (LM.here ?_)
    refine codeAny_handlers_suite_as ?_
    refine HandSPX.lands_againZ fl3 fun h4 fl4 up4 => ?_
    have J4 : Inv X pins σ' H' { s' with heap := h4 } := J.landed nb fl4.1 ((up.trans up3).trans up4) os ag
    obtain ⟨oe4, vs4, he4, hz4, hd4⟩ := fl4.there
    have S4 := J4.suite he4 hd4 na nL nF
    refine store_ok (X := X.suite a ((a, oe4) :: (X.pn ++ pins))) (v := .ref a) S4 hN hi hloc rfl (fun s5 S5 => ?_) (.inr hln)
    have hset : PSs (X.suite a ((a, oe4) :: (X.pn ++ pins))) [.Assign [.Name y p1] (.Name n p2) p3] (tAsg (tVar i) (gName j)) :=
      pss_one (ps_set (X := X.suite a ((a, oe4) :: (X.pn ++ pins))) hN hj (.inl hly) (pe_var (X := X.suite a ((a, oe4) :: (X.pn ++ pins))) hi (.inl hln) hdn hcn) rfl (.inr hly))
    have hlt : i < σ'.length := by
      have h1 := J.len
      have h2 := lt_of_get hi
      omega
    refine wpAny_mono (hset.run [] s5 _ H' { nx := fun σ6 H6 => σ6 = (σ'.set i (some (.ref a))).set j (some (.ref a)) ∧ H6 = H', rt := fun _ _ => False } S5 ⟨.ref a, List.getElem?_set_self hlt, rfl, rfl⟩) (fun f s6 hsp => ?_) (fun _ _ z => False.elim z)
    cases f with
    | next =>
      obtain ⟨σ6, H6, S6, rfl, rfl⟩ := hsp
      have S7 : Inv X ((a, oe4) :: pins) ((σ'.set i (some (.ref a))).set j (some (.ref a))) H6 s6 := by
        refine (S6.unsuite ok).pins_of fun p hp => ?_
        rcases List.mem_cons.mp hp with e | hp
        · rw [e]; exact S6.pin (a, oe4) (List.mem_append_left _ List.mem_cons_self)
        · exact (S6.unsuite ok).pin p (List.mem_append_right _ hp)
      exact gone_ok S7 hN hi hln fun s7 J7 => ⟨_, _, inv_exc J7 hz4 ⟨_, hd4⟩ (fun b z => by rw [hex] at z; exact nomatch z) young apart, hyes a na⟩
    | brk => obtain ⟨_, _, _, q⟩ := hsp; exact q.elim
    | cont => obtain ⟨_, _, _, q⟩ := hsp; exact q.elim
    | ret u => obtain ⟨_, _, _, _, _, q⟩ := hsp; exact q.elim
  · cases f with
    | next =>
      obtain ⟨σ', H', J', q⟩ := hsp
      exact wpAny_execs_nil ⟨σ', H', J'.ofTry ok, q⟩
    | brk =>
      obtain ⟨σ', H', J', q⟩ := hsp
      exact ⟨σ', H', J'.ofTry ok, q⟩
    | cont =>
      obtain ⟨σ', H', J', q⟩ := hsp
      exact ⟨σ', H', J'.ofTry ok, q⟩
    | ret u =>
      obtain ⟨v, σ', H', J', r, q⟩ := hsp
      exact ⟨v, σ', H', J'.ofTry ok, r, q⟩
end
end Mini

/- M4e -/
set_option Elab.async false
set_option linter.all false
set_option maxRecDepth 100000
set_option maxHeartbeats 1000000
/-! MINI 4e: a lambda handed to the def that calls it and keeps what it raises; a def held by a name, called. -/
namespace Mini
open PySem PySem.Spec PyProof.Rows L2 LamX
theorem takes_len {X : Cx} {W : WX} (tk : Takes X W) : Takes X (fun cls d σ H => σ.length = X.N.length → W cls d σ H) := fun u s' ⟨a, B, sI, pins, σ, H, cls, d, e, I, nb, up, sky, na, os, ag, w⟩ =>
  tk u s' ⟨a, B, sI, pins, σ, H, cls, d, e, I, nb, up, sky, na, os, ag, w I.len⟩
/-- what the def makes of the lambda's reading: None, or the exception kept -/
def TCaught (K : PySem.W.Frag) (CS : Addr) : (XK → Hp → VK → Prop) → Hp → VK → Prop := fun tl H Q =>
  tl (fun cls d H' => PySem.W.exmOne K cls (.ref CS) = some true ∧ ∀ a, H' a = none → Q (.ref a) (upd H' a (ExH cls d a))) H (fun _ H' => Q .non H')
theorem caught_gives {X : Cx} {x a e y z q : Str} {sg : Scope} {g CS : Addr} {cdg : Value} {k : Nat} {p1 p2 p3 p4 p5 p6 p7 p8 p9 p10 p11 p12 p13 p14 : Pos} (hnd : [a, y, z].Nodup) (hge : sg.names.lookup e = some .globalImplicit) (hme : X.mg e = some (.ref CS)) (hde : (e == ("__debug__" : Str)) = false)
    (hla : sg.names.lookup a = some .local) (hly : sg.names.lookup y = some .local) (hlz : sg.names.lookup z = some .local) (hdz : (z == ("__debug__" : Str)) = false) (hcz : (z == ("__classdict__" : Str)) = false) (hdy : (y == ("__debug__" : Str)) = false) (hcy : (y == ("__classdict__" : Str)) = false) :
    GivesTo X [a, y, z] x sg g cdg [.Assign [.Name y p1] (.Constant .none k p2) p3, .Try [.Expr (.Call (.Name a p4) [] [] p5) p6] [.ExceptHandler (some (.Name e p7)) (some z) [.Assign [.Name y p8] (.Name z p9) p10] p11] [] [] p12, .Return (some (.Name y p13)) p14] a q (TCaught X.K CS) := by
  intro f c' s H Q tl act hc h
  have hgl : Gl (cxOf C8.CX0 X.prog X.w X.K X.mg X.base [a, y, z] x sg g cdg X.A X.stack s H C8.E0).nox e := hge
  let Ech : XK := fun cls d H' => PySem.W.exmOne X.K cls (.ref CS) = some true ∧ ∀ a, H' a = none → Q (.ref a) (upd H' a (ExH cls d a))
  refine ⟨_, pss_cons (ps_set (X := (cxOf C8.CX0 X.prog X.w X.K X.mg X.base [a, y, z] x sg g cdg X.A X.stack s H C8.E0).nox) (i := 1) hnd rfl (.inl hly) pe_non rfl (.inl rfl)) (pss_cons (ps_try_keep (X := (cxOf C8.CX0 X.prog X.w X.K X.mg X.base [a, y, z] x sg g cdg X.A X.stack s H C8.E0).nox) (c := .ref CS) (i := 2) (j := 1)
      (tb := fun W D σ H => (∀ cls d σ' H', Ech cls d H' → σ'.length = 3 → W cls d σ' H') ∧ σ[0]? = some (some (.ref f)) ∧ H c' = some (CodeO c' q) ∧ tl Ech H fun _ H1 => D.nx σ H1)
      rfl rfl hnd rfl rfl hlz hly ⟨hgl, hde, .inl hme⟩ rfl (by decide) hdz hcz (fun W pn xe tk _ => ?_)) (pss_one (ps_ret (pe_var (X := (cxOf C8.CX0 X.prog X.w X.K X.mg X.base [a, y, z] x sg g cdg X.A X.stack s H C8.E0).nox) (i := 1) rfl (.inl hly) hdy hcy)))), ?_⟩
  · refine ⟨fun pins s' σ H' D I h' => ?_⟩
    obtain ⟨hW, h1, h2, h3⟩ := h'
    have hp := act _ pn xe Ech p4 p5 (takes_len tk) (fun cls d σ' H' he hl => hW cls d σ' H' he hl)
    have hq := pss_one (ps_expr (pos := p6) hp rfl)
    exact hq.run pins s' σ H' D I ⟨h1, h2, h3⟩
  · refine ⟨fun cls d σ' H' ⟨e1, e2⟩ hl => ⟨e1, fun a na => ?_⟩, rfl, hc, ?_⟩
    · match σ', hl with
      | [u0, u1, u2], _ => exact ⟨.ref a, rfl, e2 a na⟩
    · have e : (fun (_ : V) (H1 : Hp) => ∃ v, (([some (V.ref f), none, none] : L2.St).set 1 (some V.non))[1]? = some (some v) ∧ Q v H1) = fun _ H1 => Q .non H1 := by
        funext _ H1
        apply propext
        constructor
        · rintro ⟨v, e, q⟩
          cases e
          exact q
        · exact fun q => ⟨.non, rfl, q⟩
      show tl Ech H (fun (_ : V) (H1 : Hp) => ∃ v, (([some (V.ref f), none, none] : L2.St).set 1 (some V.non))[1]? = some (some v) ∧ Q v H1)
      rw [e]
      exact h
section
variable {X : Cx} {T : List (Addr × Str)} {W : WX} {F : Ifc} {E : XK} {C : Mini.E}
/-- known exceptions are of the caught class, or not -/
structure CtF (K : PySem.W.Frag) (mg : Str → Option Value) (F : Ifc) (CS : Addr) : Prop where
  of : ∀ c D, mg c = some (.ref D) → F.sub c "StepError" = true → PySem.W.exmOne K (.ref D) (.ref CS) = some true
theorem caught_go {CS : Addr} (ct : CtF X.K X.mg F CS) {σ : L2.St} {H : Hp} {Q : VK} (h : TR X.K X.mg T W (lRV X.K X.mg) (denE F (.caught C)) σ H Q) :
    tLam T (TCaught X.K CS) (fun E => TR X.K X.mg T (wx E) (lRV X.K X.mg) (denE F C)) σ H Q := by
  obtain ⟨P, la, S, ρ, R, q⟩ := h
  refine ⟨R.tabs, fun H1 ex tb => ?_⟩
  have R1 : Rel X.K X.mg T P la S H1 σ ρ := by
    refine ⟨fun b o e => ex b o (R.sub _ _ e) fun ps z => R.nt.1 b ps (by rw [e, z]), fun b o e => ex b o (R.prot _ _ e) fun ps z => R.nt.2 b ps (by rw [e, z]), R.dj, R.nt, tb, R.tabN, R.len, R.val, fun i d e => ?_, R.fix, R.lks, R.inj⟩
    obtain ⟨a, e1, w, hP⟩ := R.mu i d e
    exact ⟨a, e1, w.mono (Same.refl S) w.1 (fun o ho => ex a o ho (Tabs.ne_own w o ho).1), hP⟩
  refine ⟨P, la, S, ρ, R1, ?_⟩
  rw [denE] at q
  dsimp only at q
  cases hv : denE F C ρ with
  | bad => rw [hv] at q; exact q.elim
  | ok r ρ1 =>
    rw [hv] at q
    exact fun v S2 H2 R2 sm l => q .non S2 H2 R2 sm .non
  | ex c pl ρ1 =>
    rw [hv] at q
    dsimp only at q
    split at q
    · rename_i hs
      intro cls d S2 H2 R2 sm ⟨D, hD, hcls, hpl⟩
      subst hcls
      refine ⟨ct.of c D hD hs, fun a na => ?_⟩
      have nS : S2 a = none := none_of_same R2.sub na
      have R3 := R2.newS (o := ExH (.ref D) d a) na (fun ps z => by unfold ExH at z; cases z)
      have sm2 : Same S2 (upd S2 a (ExH (.ref D) d a)) := same_new nS
      refine q (.ref a) _ _ R3 (sm.trans sm2) ?_
      rcases hpl with ⟨rfl, rfl⟩ | ⟨dd, v, z, rfl, rfl, h1, h2⟩
      · exact Rp.exc0 hD upd_same
      · exact Rp.exc1 hD upd_same (sm2 _ _ h1) (h2.mono sm2)
    · exact q.elim
/-- x(lambda: body), x the def that keeps what it raises -/
theorem sd_caught {x a : Str} {g c Pt CS : Addr} {k : Nat} {pg : Arguments} {bg : List Stmt} {sg : Scope} {dV kV doc pm cdv ct oc : Value} {an od : Option Addr} {osl : Array (Option Value)} {Ng : List Str}
    {params : Arguments} {body : Expr} {scope : Scope} {p lpos pos : Pos} (ct' : CtF X.K X.mg F CS) (hg : Gl X x) (hm : X.mg x = some (.ref g)) (hk : PySem.W.keepIn X.K (.ref g) = true)
    (lk : X.K.lookup g = some ⟨oc, od, .func (PySem.W.fnOf x x pg bg sg dV kV doc pm an cdv ct), osl⟩) (hcg : PySem.W.codeIn X.K cdv x = true) (hb : L2.Binds X.K (PySem.W.fnOf x x pg bg sg dV kV doc pm an cdv ct) [a] []) (Sg : FnScope Ng [a] sg) (hNg : Ng[0]? = some a) (hva : Vis sg a)
    (hG : GivesTo X Ng x sg g cdv bg a (X.env.qual ++ "<lambda>") (TCaught X.K CS))
    (TB : TabB X.base X.mg c Pt) (hcode : X.env.code = .ref c) (hmT : (Pt, X.env.qual ++ "<lambda>") ∈ T) (hu : ∀ p ∈ T, p.1 = Pt → p.2 = X.env.qual ++ "<lambda>") (hr : Room (k + 2) X.A) (L : LamS X.env.scope scope) (hdef : defaultsOf params X.env = ([], []))
    (hbind : ∀ (q : Str) (cl : List (Str × Addr)) (pm cv ctv : Value), bindArgs (PySem.W.kla_fn "<lambda>" q params body scope cl pm cv ctv) ⟨[], []⟩ = pure [])
    (hbody : ∀ (A : Around) (outer : List PySem.Env) (s : Shared) (H : Hp) (E : XK) (f c' : Addr), Room k (A.deeper (lamEnv X scope s.heap.objs.size f c')) → SdE (lamCx X A outer s H E scope f c') T (wx E) body (denE F C))
    (hdb : (x == ("__debug__" : Str)) = false) (hd : (a == ("__debug__" : Str)) = false) (hcd : (a == ("__classdict__" : Str)) = false) :
    SdE X T W (.Call (.Name x p) [.Lambda params body scope lpos] [] pos) (denE F (.caught C)) :=
  (pe_lamcall hg hm hk lk hcg hb Sg hNg hva hG TB hcode hmT hu hr L hdef hbind hbody hdb hd hcd).imp fun _ _ _ h => caught_go ct' h
end
/-- a lambda's body lets out what its wish says -/
theorem takes_lam {X : Cx} {A : Around} {outer : List PySem.Env} {s : Shared} {H : Hp} {E : XK} {scope : Scope} {f c' : Addr} : Takes (lamCx X A outer s H E scope f c') (wx E) :=
  takes_of (X := lamCx X A outer s H E scope f c') rfl rfl rfl rfl
/-! ### a def held by a name -/
section
variable {X : Cx} {T : List (Addr × Str)} {E : XK} {F : Ifc} {pos p : Pos} {lv i : Nat} {x : Str} {e : Expr} {es : List Expr} {Es : List Mini.E} {fs : List Str}
theorem sd_callv (tk : Takes X (wx E)) (hr : Room lv X.A) (hF : ∀ f, f ∈ fs → ∃ fa fd dvs, FnI X.prog X.w X.K X.mg X.base T F lv f fa fd dvs ∧ Bnd X.K fd (F.pars f) dvs (denL F Es).length [])
    (hN : X.N[i]? = some x) (hv : Vis X.env.scope x) (hd : (x == ("__debug__" : Str)) = false) (hcd : (x == ("__classdict__" : Str)) = false)
    (ha : SdVs X T (wx E) (e :: es) (vVs (denL F Es))) (he : starEach (e :: es) X.env = (false, eval e X.env) :: starEach es X.env)
    (hpl : (backTo pos (starEach es X.env)).any (·.1) = false) : SdE X T (wx E) (.Call (.Name x p) (e :: es) [] pos) (denE F (.callv i fs Es)) := by
  refine ⟨fun pins s σ H Q I ⟨P, la, S, ρ, R, q⟩ => ?_⟩
  rw [denE] at q
  dsimp only at q
  cases hl : look i ρ with
  | none => rw [hl] at q; exact q.elim
  | some d =>
    rw [hl] at q
    cases d <;> first | exact q.elim | skip
    rename_i f
    dsimp only at q
    by_cases hfs : fs.contains f = false
    · rw [if_pos hfs] at q; exact q.elim
    rw [if_neg hfs] at q
    have hmem : f ∈ fs := by
      have : fs.contains f = true := by cases h : fs.contains f <;> simp_all
      exact List.contains_iff_mem.mp this
    obtain ⟨fa, fd, dvs, FI, hb⟩ := hF f hmem
    obtain ⟨v, ev, w⟩ := R.look hl
    have hv' : v = .ref fa := by
      rcases w with w | ⟨a, _, _, ⟨vs, ds, z, _⟩ | ⟨kvs, ks, ds, z, _⟩⟩
      · cases w with
        | fn h =>
          have h1 := FI.hm
          rw [h] at h1
          cases h1
          rfl
      · cases z
      · cases z
    subst hv'
    refine wpAny_Call_Name_kw (thn ((pe_var (pos := p) hN hv hd hcd).run pins s σ H (fun v H1 => v = .ref fa ∧ H1 = H) I ⟨.ref fa, ev, rfl, rfl⟩) fun u s1 ⟨v, H1, I1, r1, ev1, eH⟩ => ?_)
    subst ev1 eH
    obtain rfl : u = Value.ref fa := r1
    refine PySem.W.callWith_K (h₀ := X.base) I.ok.mod.kin FI.hk (thn (ha.run pos pins s1 σ H1 (fun vs H2 => ∃ bs, vs.length = (denL F Es).length ∧ arrange (F.pars f) dvs vs [] [] = some bs ∧ spM X.K X.mg T (F.pars f).length (F.ino f) (F.call f) bs H2 Q E) I1 ⟨P, la, S, ρ, R, ?_⟩) fun us s2 ⟨vs, H2, I2, r, bs, l1, q1, q2⟩ => ⟨I2.kIn, ?_⟩) he hpl
    · cases hz : vVs (denL F Es) ρ with
      | bad => rw [hz] at q; exact q.elim
      | ex c pl ρ2 => rw [hz] at q; exact q
      | ok ds ρ2 =>
        rw [hz] at q
        intro vs S2 H2 R2 sm2 l2
        have q := post.mono sm2 q
        rw [Res.bind_ok] at q
        have l2 : RpL X.K X.mg S2 vs ds := l2
        cases ha : arrange (F.pars f) ((F.dfl f).map Opd.v) (ds.map Opd.v) [] [] with
        | none => rw [ha] at q; exact q.elim
        | some os' =>
          rw [ha] at q
          obtain ⟨bs, e1, e2⟩ := arrange_rel (R := lO X.K X.mg P S2 H2 σ ρ2) (paired_v (FI.dv S2)) (paired_v l2) .nil ha
          exact ⟨bs, by rw [l2.length, vVs_len hz], e1, call_ok FI R2 e2 q⟩
    · exact run_fnG (ks := []) (ws := []) (zs := []) FI.fn hr hb (passes_call tk fun _ _ _ _ z => z) I2 r .nil l1 rfl q1 q2
end
end Mini

/- M6 -/
set_option Elab.async false
set_option linter.all false
set_option maxRecDepth 100000
set_option maxHeartbeats 2000000
/-! MINI 6: the text is checked against the mini syntax. -/
namespace Mini
open PySem PySem.Spec PyProof.Rows L2 LamX
/-- what is known of the program's names -/
structure Stat where
  fns : List Str
  ino : List (Str × List Bool)
  calls : List (Str × Nat × List Str)
  clss : List Str
  excs : List Str
  ct : List Str
def Stat.inoOf (G : Stat) (f : Str) : List Bool := (G.ino.lookup f).getD []
def btNames : List Str := ["len", "isinstance", "int", "tuple", "list", "sorted", "sum", "all", "min", "max", "abs", "repr", "range", "enumerate", "zip", "bool", "str", "dict"]
/-- how the def that keeps what a lambda raises stands -/
structure CgF (P : Program) (w : World) (K : PySem.W.Frag) (mg : Str → Option Value) (base : Heap) (F : Ifc) (x : Str) : Prop where
  ex : ∃ (g CS : Addr) (a : Str) (pg : Arguments) (bg : List Stmt) (sg : Scope) (dV kV doc pm cdv ct oc : Value) (an od : Option Addr) (osl : Array (Option Value)) (Ng : List Str), CtF K mg F CS ∧ mg x = some (.ref g) ∧ PySem.W.keepIn K (.ref g) = true ∧
    K.lookup g = some ⟨oc, od, .func (PySem.W.fnOf x x pg bg sg dV kV doc pm an cdv ct), osl⟩ ∧ PySem.W.codeIn K cdv x = true ∧ L2.Binds K (PySem.W.fnOf x x pg bg sg dV kV doc pm an cdv ct) [a] [] ∧ FnScope Ng [a] sg ∧ Ng[0]? = some a ∧ Vis sg a ∧
    (∀ (X : Cx) (q : Str), X.prog = P → X.w = w → X.K = K → X.mg = mg → X.base = base → GivesTo X Ng x sg g cdv bg a q (TCaught K CS)) ∧ (a == ("__debug__" : Str)) = false ∧ (a == ("__classdict__" : Str)) = false
structure Sta (G : Stat) (P : Program) (w : World) (K : PySem.W.Frag) (mg : Str → Option Value) (base : Heap) (T : List (Addr × Str)) (F : Ifc) (lv : Nat) : Prop where
  gl : ∀ x d, F.glob x = some d → ∃ v u, mg x = some u ∧ RelV v u ∧ ∀ S, Rp K mg S v d
  bt : ∀ x ∈ btNames, mg x = none
  cls : ∀ x ∈ G.clss, ∃ C, IsF K mg F x C
  exc : ∀ x ∈ G.excs, x ≠ "TooMany" ∧ ∃ C, PySem.W.excIn K C [.type "ValueError", .type "Exception", .type "BaseException", .type "object"] "ValueError.__new__" = true ∧ mg x = some (.ref C) ∧ PySem.W.keepIn K (.ref C) = true ∧
    PySem.W.subIn K (.ref C) (.type "BaseException") = some true ∧ PySem.W.typeIn K (.ref C) = some (.type "type")
  fn : ∀ f ∈ G.fns, F.ino f = G.inoOf f ∧ ∃ fa fd dvs, FnI P w K mg base T F lv f fa fd dvs ∧ ∀ n ks, (f, n, ks) ∈ G.calls → Bnd K fd (F.pars f) dvs n ks
  ct : ∀ x ∈ G.ct, CgF P w K mg base F x
/-- a place of the text: the names N, their scope, what may be stored in cells, may lambdas stand here -/
structure Ctx (G : Stat) (F : Ifc) (T : List (Addr × Str)) (lv : Nat) (X : Cx) (E : XK) (N : List Str) (sc : Scope) (st : Str → Bool) (lam : Bool) : Prop where
  hN : X.N = N
  nd : N.Nodup
  hsc : X.env.scope = sc
  calm : X.calm = true
  hst : ∀ x, st x = true → X.fn x = true
  tk : Takes X (wx E)
  room : Room lv X.A
  lamR : lam = true → Room (lv + 2) X.A ∧ ∃ c Pt, TabB X.base X.mg c Pt ∧ X.env.code = .ref c ∧ (Pt, X.env.qual ++ "<lambda>") ∈ T ∧ ∀ p ∈ T, p.1 = Pt → p.2 = X.env.qual ++ "<lambda>"
  sta : Sta G X.prog X.w X.K X.mg X.base T F lv
theorem Ctx.blk {G : Stat} {F : Ifc} {T : List (Addr × Str)} {lv : Nat} {X : Cx} {E : XK} {N : List Str} {sc : Scope} {st : Str → Bool} {lam : Bool} (h : Ctx G F T lv X E N sc st lam) (s : Shared) (H : Hp) (scope : Scope) (C : Addr) (cl : List (Str × Addr)) (fp : List Addr) :
    Ctx G F T lv (X.blk s H scope (compEnvC scope cl C X.env) fp) (fun _ _ _ => False) N (relS scope sc) (fun x => scope.names.lookup x == some .cell) lam where
  hN := h.hN
  nd := h.nd
  hsc := by rw [← h.hsc]; rfl
  calm := h.calm
  hst := fun x q => q
  tk := L2.takes0
  room := h.room
  lamR := h.lamR
  sta := h.sta
/-! ### names -/
def dbgB (x : Str) : Bool := !(x == ("__debug__" : Str))
def slotB (N : List Str) (sc : Scope) (i : Nat) (x : Str) : Bool := decide (N[i]? = some x) && (match sc.names.lookup x with | some .local | some .cell | some .free => true | _ => false) && dbgB x && !(x == ("__classdict__" : Str))
def locB (N : List Str) (sc : Scope) (st : Str → Bool) (i : Nat) (x : Str) : Bool := decide (N[i]? = some x) && (match sc.names.lookup x with | some .local => true | some .cell => st x | _ => false)
def glB (sc : Scope) (x : Str) : Bool := decide (sc.names.lookup x = some .globalImplicit) && dbgB x
def star : Expr → Bool
  | .Starred .. => true
  | _ => false
theorem star_of {e : Expr} (h : star e = false) (es : List Expr) (env : PySem.Env) : starEach (e :: es) env = (false, eval e env) :: starEach es env := by
  cases e <;> first | rfl | cases h
def stars (es : List Expr) : Bool := es.any star
theorem stars_cons {e : Expr} {es : List Expr} (h : stars (e :: es) = false) : star e = false ∧ stars es = false := by
  unfold stars at h
  rw [List.any_cons, Bool.or_eq_false_iff] at h
  exact h
theorem stars_any : ∀ {es : List Expr} (h : stars es = false) (pos : Pos) (env : PySem.Env), (backTo pos (starEach es env)).any (·.1) = false
  | [], _, _, _ => rfl
  | e :: es, h, pos, env => by
    obtain ⟨h1, h2⟩ := stars_cons h
    rw [star_of h1]
    show ((false : Bool) || (backTo pos (starEach es env)).any (·.1)) = false
    rw [stars_any h2, Bool.or_false]
theorem stars_all : ∀ {es : List Expr} (h : stars es = false) (pos : Pos) (env : PySem.Env), (backTo pos (starEach es env)).all (fun x => !x.1) = true
  | [], _, _, _ => rfl
  | e :: es, h, pos, env => by
    obtain ⟨h1, h2⟩ := stars_cons h
    rw [star_of h1]
    show (true && (backTo pos (starEach es env)).all (fun x => !x.1)) = true
    rw [stars_all h2, Bool.and_true]
section
variable {G : Stat} {F : Ifc} {T : List (Addr × Str)} {lv : Nat} {X : Cx} {E : XK} {N : List Str} {sc : Scope} {st : Str → Bool} {lam : Bool}
theorem dbg_of {x : Str} (h : dbgB x = true) : (x == ("__debug__" : Str)) = false := by
  unfold dbgB at h
  simpa using h
theorem slot_of (S : Ctx G F T lv X E N sc st lam) {i : Nat} {x : Str} (h : slotB N sc i x = true) : X.N[i]? = some x ∧ Vis X.env.scope x ∧ (x == ("__debug__" : Str)) = false ∧ (x == ("__classdict__" : Str)) = false := by
  unfold slotB at h
  simp only [Bool.and_eq_true, decide_eq_true_eq] at h
  obtain ⟨⟨⟨h1, h2⟩, h3⟩, h4⟩ := h
  refine ⟨by rw [S.hN]; exact h1, ?_, dbg_of h3, by simpa using h4⟩
  rw [S.hsc]
  split at h2
  · rename_i e; exact .inl e
  · rename_i e; exact .inr (.inl e)
  · rename_i e; exact .inr (.inr e)
  · cases h2
theorem loc_of (S : Ctx G F T lv X E N sc st lam) {i : Nat} {x : Str} (h : locB N sc st i x = true) : X.N[i]? = some x ∧ Loc X.env.scope x ∧ (X.fn x = true ∨ X.env.scope.names.lookup x = some .local) := by
  unfold locB at h
  simp only [Bool.and_eq_true, decide_eq_true_eq] at h
  obtain ⟨h1, h2⟩ := h
  rw [S.hsc]
  refine ⟨by rw [S.hN]; exact h1, ?_⟩
  split at h2
  · rename_i e; exact ⟨.inl e, .inr e⟩
  · rename_i e; exact ⟨.inr e, .inl (S.hst _ h2)⟩
  · cases h2
theorem gl_of (S : Ctx G F T lv X E N sc st lam) {x : Str} (h : glB sc x = true) : Gl X x ∧ (x == ("__debug__" : Str)) = false := by
  unfold glB at h
  simp only [Bool.and_eq_true, decide_eq_true_eq] at h
  refine ⟨?_, dbg_of h.2⟩
  show X.env.scope.names.lookup x = _
  rw [S.hsc]
  exact h.1
end
/-! ### tests -/
def plainT : Expr → Bool
  | .UnaryOp .Not _ _ | .BoolOp .. | .IfExp .. | .Compare .. => false
  | _ => true
theorem isTrue_plain {e : Expr} (h : plainT e = true) (env : PySem.Env) : ∀ whole, isTrue e env whole = (do let v ← whole; standAt e.pos; holding [v] (truthy v)) := fun whole => by
  cases e <;> first | rfl | cases h | skip
  rename_i op a p
  cases op <;> first | rfl | cases h
def tst : Expr → Bool
  | .IfExp .. => false
  | _ => true
def isBo : Expr → Bool
  | .BoolOp .. => true
  | _ => false
/-- what is shown of a piece of the text -/
structure Ok (F : Ifc) (T : List (Addr × Str)) (X : Cx) (E : XK) (M : Mini.E) (e : Expr) : Prop where
  v : SdE X T (wx E) e (denE F M)
  o : SdO X T (wx E) e (vO M (denE F M))
  t : tst e = true → SdT X T (wx E) e (vT M (denE F M))
  w : isBo e = true → SdW X T (wx E) e (vT M (denE F M))
  l : ∀ i, M = .slot i → SdO X T (wx E) e (vL M (denE F M))
theorem Ok.of {F : Ifc} {T : List (Addr × Str)} {X : Cx} {E : XK} {M : Mini.E} {e : Expr} (he : SdE X T (wx E) e (denE F M)) (hs : ∀ i, M ≠ .slot i) (hp : plainT e = true) : Ok F T X E M e :=
  ⟨he, sdO he hs, fun _ => sdT (sdO he hs) (isTrue_plain hp X.env), fun z => (by cases e <;> first | cases z; done | cases hp; done), fun i z => absurd z (hs i)⟩
theorem Ok.ofT {F : Ifc} {T : List (Addr × Str)} {X : Cx} {E : XK} {M : Mini.E} {e : Expr} (he : SdE X T (wx E) e (denE F M)) (hs : ∀ i, M ≠ .slot i) (ht : SdT X T (wx E) e (vT M (denE F M))) (hp : isBo e = false) : Ok F T X E M e :=
  ⟨he, sdO he hs, fun _ => ht, fun z => (by rw [hp] at z; cases z), fun i z => absurd z (hs i)⟩
inductive OkL (F : Ifc) (T : List (Addr × Str)) (X : Cx) (E : XK) : List Mini.E → List Expr → Prop
  | nil : OkL F T X E [] []
  | cons {M : Mini.E} {e : Expr} {Ms : List Mini.E} {es : List Expr} : Ok F T X E M e → OkL F T X E Ms es → OkL F T X E (M :: Ms) (e :: es)
section
variable {F : Ifc} {T : List (Addr × Str)} {X : Cx} {E : XK}
theorem OkL.len : ∀ {Ms : List Mini.E} {es : List Expr}, OkL F T X E Ms es → Ms.length = es.length
  | _, _, .nil => rfl
  | _, _, .cons _ r => by rw [List.length_cons, List.length_cons, OkL.len r]
theorem OkL.os : ∀ {Ms : List Mini.E} {es : List Expr}, OkL F T X E Ms es → stars es = false → SdOs X T (wx E) es (vOs Ms (denL F Ms))
  | _, _, .nil, _ => sdos_nil
  | _, _, .cons h r, hs => sdos_cons h.o (OkL.os r (stars_cons hs).2) (star_of (stars_cons hs).1 _ _)
theorem OkL.vs : ∀ {Ms : List Mini.E} {es : List Expr}, OkL F T X E Ms es → stars es = false → SdVs X T (wx E) es (vVs (denL F Ms))
  | _, _, .nil, _ => sdvs_nil
  | _, _, .cons h r, hs => sdvs_cons h.v (OkL.vs r (stars_cons hs).2) (star_of (stars_cons hs).1 _ _)
theorem OkL.rs : ∀ {Ms : List Mini.E} {es : List Expr}, OkL F T X E Ms es → stars es = false → SdRs X T (wx E) es (vRs (denL F Ms))
  | _, _, .nil, _ => sdrs_nil
  | _, _, .cons h r, hs => sdrs_cons h.v (OkL.rs r (stars_cons hs).2) (star_of (stars_cons hs).1 _ _)
def inoB : List Bool → List Mini.E → Bool
  | true :: bs, .slot _ :: es => inoB bs es
  | false :: bs, _ :: es => inoB bs es
  | _, [] => true
  | _, _ => false
theorem OkL.as : ∀ {Ms : List Mini.E} {es : List Expr} {bs : List Bool}, OkL F T X E Ms es → stars es = false → inoB bs Ms = true → SdOs X T (wx E) es (vAs bs Ms (denL F Ms))
  | _, _, bs, .nil, _, _ => sdas_nil
  | M :: Ms, _, [], .cons h r, hs, hb => by cases M <;> cases hb
  | M :: Ms, _, false :: bs, .cons h r, hs, hb => sdas_val h.v (OkL.as r (stars_cons hs).2 (by cases M <;> exact hb)) (star_of (stars_cons hs).1 _ _)
  | M :: Ms, _, true :: bs, .cons h r, hs, hb => by
    cases M <;> first | cases hb; done | skip
    rename_i i
    exact sdas_ref (h.l i rfl) (OkL.as r (stars_cons hs).2 hb) (star_of (stars_cons hs).1 _ _)
end
end Mini

/- M6b -/
set_option Elab.async false
set_option linter.all false
set_option maxRecDepth 100000
set_option maxHeartbeats 4000000
/-! MINI 6b: the check of expressions. -/
namespace Mini
open PySem PySem.Spec PyProof.Rows L2 LamX
def litB : D → Const → Bool
  | .non, .none => true
  | .bl b, .bool c => b == c
  | .int i, .int j => decide (i = j)
  | .str x, .str y => decide (x = y)
  | _, _ => false
def tyB (G : Stat) : Ty → Str → Bool
  | .int, x => decide (x = "int") | .bool, x => decide (x = "bool") | .str, x => decide (x = "str") | .tup, x => decide (x = "tuple") | .lst, x => decide (x = "list") | .dic, x => decide (x = "dict")
  | .cls c, x => decide (x = c) && decide (c ∈ G.clss)
def biB : BI → Str → Nat → Bool
  | .len, x, n => decide (x = "len") && decide (n = 1)
  | .int, x, n => decide (x = "int") && decide (n = 1)
  | .tuple, x, n => decide (x = "tuple") && decide (n = 1)
  | .list, x, n => decide (x = "list") && decide (n = 1)
  | .sorted, x, n => decide (x = "sorted") && decide (n = 1)
  | .sum, x, n => decide (x = "sum") && decide (n = 1)
  | .all, x, n => decide (x = "all") && decide (n = 1)
  | .min, x, n => decide (x = "min") && decide (n = 2)
  | .max, x, n => decide (x = "max") && decide (n = 2)
  | .abs, x, n => decide (x = "abs") && decide (n = 1)
  | .repr, x, n => decide (x = "repr") && decide (n = 1)
  | .isi _, _, _ => false
mutual
def tgB (N : List Str) (sc : Scope) (st : Str → Bool) : Tg → Expr → Bool
  | .sl i, e => match e with
    | .Name x _ => locB N sc st i x
    | _ => false
  | .tp ts, e => match e with
    | .Tuple es _ _ => tgsB N sc st ts es
    | _ => false
def tgsB (N : List Str) (sc : Scope) (st : Str → Bool) : List Tg → List Expr → Bool
  | [], es => match es with | [] => true | _ => false
  | t :: ts, es => match es with
    | e :: es => !star e && tgB N sc st t e && tgsB N sc st ts es
    | [] => false
end
def noSet : Expr → Bool
  | .Set .. => false
  | _ => true
def paramsB : Arguments → Bool
  | ⟨[], [], none, [], [], none, []⟩ => true
  | _ => false
def ownN (N : List Str) (own : List Nat) : List (Str × Nat) := own.map fun i => (N[i]?.getD "", i)
def partB (l : Mini.E) (e : Option Expr) (k : Expr → Bool) : Bool := match e with
  | none => (match l with | .lit .non => true | _ => false)
  | some e => k e
def isRev : Expr → Bool
  | .Slice none none (some (.UnaryOp .USub (.Constant (.int 1) _ _) _)) _ => true
  | _ => false
mutual
/-- is e the text of the mini expression? (it: as something that is walked) -/
def ck (G : Stat) (N : List Str) : E → Bool → Scope → (Str → Bool) → Bool → Expr → Bool
  | .slot i, _, sc, _, _, e => match e with
    | .Name x _ => slotB N sc i x
    | _ => false
  | .lit d, _, _, _, _, e => match e with
    | .Constant c _ _ => litB d c
    | _ => false
  | .glob x, _, sc, _, _, e => match e with
    | .Name y _ => decide (y = x) && glB sc x
    | _ => false
  | .op o a b, _, sc, st, lam, e => match e with
    | .BinOp l op r _ => decide (op = o.py) && ck G N a false sc st lam l && ck G N b false sc st lam r
    | _ => false
  | .neg a, _, sc, st, lam, e => match e with
    | .UnaryOp .USub x _ => ck G N a false sc st lam x
    | _ => false
  | .notE a, _, sc, st, lam, e => match e with
    | .UnaryOp .Not x _ => ck G N a false sc st lam x && tst x
    | _ => false
  | .andE a b, _, sc, st, lam, e => match e with
    | .BoolOp .And (x :: y :: rest) p => ck G N a false sc st lam x && tst x && (match rest with
      | [] => ck G N b false sc st lam y && tst y
      | z :: zs => ck G N b false sc st lam (.BoolOp .And (y :: z :: zs) p))
    | _ => false
  | .orE a b, _, sc, st, lam, e => match e with
    | .BoolOp .Or (x :: y :: rest) p => ck G N a false sc st lam x && tst x && (match rest with
      | [] => ck G N b false sc st lam y && tst y
      | z :: zs => ck G N b false sc st lam (.BoolOp .Or (y :: z :: zs) p))
    | _ => false
  | .cmp c a b, _, sc, st, lam, e => match e with
    | .Compare l [o] [r] _ => decide (o = c.py) && noSet r && ck G N a false sc st lam l && ck G N b false sc st lam r
    | _ => false
  | .chain c1 c2 a b c, _, sc, st, lam, e => match e with
    | .Compare l [o1, o2] [r1, r2] _ => decide (o1 = c1.py) && decide (o2 = c2.py) && noSet r2 && ck G N a false sc st lam l && ck G N b false sc st lam r1 && ck G N c false sc st lam r2
    | _ => false
  | .ite c a b, _, sc, st, lam, e => match e with
    | .IfExp t x y _ => tst t && ck G N c false sc st lam t && ck G N a false sc st lam x && ck G N b false sc st lam y
    | _ => false
  | .tup fl es, _, sc, st, lam, e => match e with
    | .Tuple xs _ _ => ckS G N es fl sc st lam xs
    | _ => false
  | .lst fl es, _, sc, st, lam, e => match e with
    | .List xs _ => ckS G N es fl sc st lam xs
    | _ => false
  | .dict ks vs, _, sc, st, lam, e => match e with
    | .Dict kx vx _ => kx.all (·.isSome) && decide (kx.length = vx.length) && decide (kx.length ≤ 15) && ckL G N ks sc st lam (kx.filterMap id) && ckL G N vs sc st lam vx
    | _ => false
  | .idx a i, _, sc, st, lam, e => match e with
    | .Subscript x y _ => plainB y && ck G N a false sc st lam x && ck G N i false sc st lam y
    | _ => false
  | .slice a l h, _, sc, st, lam, e => match e with
    | .Subscript x (.Slice lo hi none _) _ => ck G N a false sc st lam x && partB l lo (ck G N l false sc st lam) && partB h hi (ck G N h false sc st lam)
    | _ => false
  | .rev a, _, sc, st, lam, e => match e with
    | .Subscript x s _ => isRev s && ck G N a false sc st lam x
    | _ => false
  | .call f as ks ws, _, sc, st, lam, e => match e with
    | .Call (.Name x _) args kws _ => decide (x = f) && glB sc f && decide (f ∈ G.fns) && decide ((f, as.length, ks) ∈ G.calls) && !stars args && ckL G N as sc st lam args && inoB (G.inoOf f) as && decide (kws.map (·.arg) = ks.map some) && ckL G N ws sc st lam (kws.map (·.value))
    | _ => false
  | .callv i fs as, _, sc, st, lam, e => match e with
    | .Call (.Name x _) args [] _ => slotB N sc i x && (fs.all fun f => decide (f ∈ G.fns) && decide ((f, as.length, []) ∈ G.calls)) && !stars args && decide (args ≠ []) && ckL G N as sc st lam args
    | _ => false
  | .bi b as, _, sc, st, lam, e => match e with
    | .Call (.Name x _) args [] _ => glB sc x && !stars args && (match b with
      | .isi t => decide (x = "isinstance") && (match args with
        | [a, .Name c _] => ckL G N as sc st lam [a] && tyB G t c && glB sc c
        | _ => false)
      | b => biB b x args.length && ckL G N as sc st lam args)
    | _ => false
  | .app i a, _, sc, st, lam, e => match e with
    | .Call (.Attribute (.Name x _) m ap) [y] [] cp => decide (m = "append") && slotB N sc i x && !star y && (ap.endLine == cp.line) && ck G N a false sc st lam y
    | _ => false
  | .pop i, _, sc, _, _, e => match e with
    | .Call (.Attribute (.Name x _) m ap) [] [] cp => decide (m = "pop") && slotB N sc i x && (ap.endLine == cp.line)
    | _ => false
  | .comp own t it ifs elt, _, sc, st, lam, e => match e with
    | .ListComp x [⟨tg, iter, fs, 0⟩] scope _ => noSet iter && ck G N it true sc st lam iter && blkC N sc scope (ownN N own) && t.slots.all (fun j => decide (j ∈ own)) &&
        tgB N (relS scope sc) (fun x => scope.names.lookup x == some .cell) t tg && decide (fs.length ≤ 1) && fs.all tst && ckL G N ifs (relS scope sc) (fun x => scope.names.lookup x == some .cell) lam fs && ck G N elt false (relS scope sc) (fun x => scope.names.lookup x == some .cell) lam x
    | _ => false
  | .range es, itr, sc, st, lam, e => match e with
    | .Call (.Name x _) args [] _ => itr && decide (x = "range") && glB sc x && !stars args && decide (1 ≤ args.length ∧ args.length ≤ 3) && ckL G N es sc st lam args
    | _ => false
  | .caught c, _, sc, _, lam, e => match e with
    | .Call (.Name x _) [.Lambda ps body scope _] [] _ => lam && decide (x ∈ G.ct) && glB sc x && paramsB ps && lamSB sc scope && ck G N c false scope (fun _ => false) false body
    | _ => false
  | .never, itr, _, _, _, _ => !itr
  | .comp2 own own2 t it ifs t2 it2 ifs2 elt, _, sc, st, lam, e => match e with
    | .ListComp x [⟨tg, iter, fs, 0⟩, ⟨tg2, iter2, fs2, 0⟩] scope _ => noSet iter && noSet iter2 && ck G N it true sc st lam iter && blkC N sc scope (ownN N own) && t.slots.all (fun j => decide (j ∈ own)) && t2.slots.all (fun j => decide (j ∈ own2)) && own2.all (fun j => decide (j ∈ own)) &&
        tgB N (relS scope sc) (fun x => scope.names.lookup x == some .cell) t tg && tgB N (relS scope sc) (fun x => scope.names.lookup x == some .cell) t2 tg2 && decide (fs.length ≤ 1) && fs.all tst && ckL G N ifs (relS scope sc) (fun x => scope.names.lookup x == some .cell) lam fs &&
        ck G N it2 true (relS scope sc) (fun x => scope.names.lookup x == some .cell) lam iter2 && decide (fs2.length ≤ 1) && fs2.all tst && ckL G N ifs2 (relS scope sc) (fun x => scope.names.lookup x == some .cell) lam fs2 && ck G N elt false (relS scope sc) (fun x => scope.names.lookup x == some .cell) lam x
    | _ => false
  | .enum _, _, _, _, _, _ => false
  | .zip _, _, _, _, _, _ => false
  | .attr _ _, _, _, _, _, _ => false
def ckL (G : Stat) (N : List Str) : List E → Scope → (Str → Bool) → Bool → List Expr → Bool
  | [], _, _, _, es => match es with | [] => true | _ => false
  | a :: as, sc, st, lam, es => match es with
    | e :: es => ck G N a false sc st lam e && ckL G N as sc st lam es
    | [] => false
def ckS (G : Stat) (N : List Str) : List E → List Bool → Scope → (Str → Bool) → Bool → List Expr → Bool
  | [], fl, _, _, _, es => match fl, es with | [], [] => true | _, _ => false
  | a :: as, fl, sc, st, lam, es => match fl, es with
    | false :: fl, e :: es => !star e && ck G N a false sc st lam e && ckS G N as fl sc st lam es
    | true :: fl, .Starred e _ :: es => ck G N a false sc st lam e && ckS G N as fl sc st lam es
    | _, _ => false
end
end Mini

/- M6c -/
set_option Elab.async false
set_option linter.all false
set_option maxRecDepth 100000
set_option maxHeartbeats 8000000
/-! MINI 6c: what the check shows. -/
namespace Mini
open PySem PySem.Spec PyProof.Rows L2 LamX
/-! ### built-ins -/
section
variable {X : Cx} {T : List (Addr × Str)} {W : WX} {F : Ifc} {pos p p2 : Pos} {a e : Expr} {A : E} {es : List Expr} {Es : List Mini.E}
theorem fetchAll_len {ρ : Env} {os : List Opd} {ds : List D} (h : fetchAll ρ os = some ds) : os.length = ds.length := (fetchAll_get h).1
theorem vOs_len : ∀ {Es : List Mini.E} {ρ ρ' : Env} {os : List Opd}, vOs Es (denL F Es) ρ = .ok os ρ' → os.length = Es.length
  | [], _, _, _, h => by cases h; rfl
  | e :: es, ρ, ρ', os, h => by
    rw [denL, vOs] at h
    obtain ⟨d, ρ1, h1, h2⟩ := bind_ok h
    obtain ⟨os', ρ2, h3, h4⟩ := bind_ok h2
    cases h4
    rw [List.length_cons, List.length_cons, vOs_len h3]
/-- sum(xs) -/
theorem sd_sum1 {A : Mini.E} (hc : X.calm = true) (hg : Gl X "sum") (hm : X.mg "sum" = none) (ha : SdOs X T W [a] (vOs [A] (denL F [A]))) (he : starEach [a] X.env = (false, eval a X.env) :: starEach [] X.env) : SdE X T W (.Call (.Name "sum" p) [a] [] pos) (denE F (.bi .sum [A])) := by
  refine (pe_callB (bir_sum1 (F := F) hc) hg hm (by decide +kernel) ha (by decide) (by decide) he (by rfl)).imp fun σ H Q ⟨P, la, S, ρ, R, q⟩ => ⟨P, la, S, ρ, R, ?_⟩
  rw [denE] at q
  dsimp only at q
  cases hv : vOs [A] (denL F [A]) ρ with
  | bad => rw [hv] at q; exact q.elim
  | ex c pl ρ1 => rw [hv] at q; exact q
  | ok os ρ1 =>
    rw [hv] at q
    intro vs S1 H1 R1 sm1 l1
    have q := post.mono sm1 q
    rw [Res.bind_ok] at q
    obtain ⟨z, ez, p3⟩ := post.of q
    cases e1 : fetchAll ρ1 os with
    | none => rw [e1] at ez; cases ez
    | some ds =>
      rw [e1] at ez
      have hl : ds.length = 1 := by rw [← fetchAll_len e1, vOs_len hv]; rfl
      match ds, hl with
      | [d], _ => exact ⟨S1, [d], z, R1.sub, lOs.fetch R1 l1 e1, ez, fun v H' m => post.made p3 R1 m⟩
def TyIs (K : PySem.W.Frag) (mg : Str → Option Value) (F : Ifc) (t : Ty) (cv : V) : Prop := match t with
  | .cls x => ∃ C, IsF K mg F x C ∧ cv = .ref C
  | t => cv = .ty t.nm
/-- isinstance(a, c) -/
theorem sd_isi {t : Ty} {c : Str} {A : Mini.E} (hg : Gl X "isinstance") (hm : X.mg "isinstance" = none) (ha : SdO X T W a (vO A (denE F A))) (he : star a = false)
    (hc : ∃ cv, PE X (.Name c p2) (tC cv) ∧ TyIs X.K X.mg F t cv) : SdE X T W (.Call (.Name "isinstance" p) [a, .Name c p2] [] pos) (denE F (.bi (.isi t) [A])) := by
  obtain ⟨cv, hc1, hc2⟩ := hc
  refine (pe_callB (bir_isi (F := F) (t := t)) hg hm (by decide +kernel) (pa_cons ha (pa_cons hc1 pa_nil rfl) (star_of he _ _)) (by decide) (by decide) (star_of he _ _) (by rfl)).imp fun σ H Q ⟨P, la, S, ρ, R, q⟩ => ⟨P, la, S, ρ, R, ?_⟩
  rw [denE] at q
  dsimp only at q
  have e : vOs [A] (denL F [A]) ρ = (vO A (denE F A) ρ).bind fun o ρ => .ok [o] ρ := by
    rw [denL, denL, vOs]
    rfl
  rw [e] at q
  cases hv : vO A (denE F A) ρ with
  | bad => rw [hv] at q; exact q.elim
  | ex c pl ρ1 => rw [hv] at q; exact q
  | ok o ρ1 =>
    rw [hv] at q
    intro v S1 H1 R1 sm1 l1
    have q : post X.K X.mg T W (lRV X.K X.mg) P la S1 σ Q (Res.of ((fetchAll ρ1 [o]).bind (bi F (.isi t))) ρ1) := post.mono sm1 q
    obtain ⟨z, ez, p3⟩ := post.of q
    cases e1 : fetch ρ1 o with
    | none =>
      have : fetchAll ρ1 [o] = none := by unfold fetchAll; rw [e1]; rfl
      rw [this] at ez; cases ez
    | some d =>
      have : fetchAll ρ1 [o] = some [d] := by unfold fetchAll; rw [e1]; rfl
      rw [this] at ez
      have ez : (if t.ok F d then some (RV.val (.bl (t.is F d))) else none) = some z := ez
      split at ez
      · rename_i hok
        cases ez
        exact ⟨S1, v, cv, d, rfl, R1.sub, lO.fetch R1 l1 e1, hok, (by cases t <;> exact hc2), post.made p3 R1 (.same (.bl _))⟩
      · cases ez
theorem sd_never {e : Expr} : SdE X T W e (denE F .never) := ⟨fun pins s σ H Q I ⟨P, la, S, ρ, R, q⟩ => by rw [denE] at q; exact q.elim⟩
end
section
variable {F : Ifc} {T : List (Addr × Str)} {X : Cx} {XE : XK} {M : Mini.E} {e : Expr}
def Good (F : Ifc) (T : List (Addr × Str)) (X : Cx) (XE : XK) (M : Mini.E) (it : Bool) (e : Expr) : Prop := (it = false → Ok F T X XE M e) ∧ (it = true → ∀ tg, SdI X T (wx XE) tg e M F)
theorem Good.both {it : Bool} (h : Ok F T X XE M e) (hw : ∀ i, M = .slot i → walked M = [i] := by intro i z; cases z) : Good F T X XE M it e := ⟨fun _ => h, fun _ tg => si_seq h.o hw⟩
theorem Good.ok (h : Good F T X XE M false e) : Ok F T X XE M e := h.1 rfl
end
section
variable {G : Stat} {F : Ifc} {T : List (Addr × Str)} {lv : Nat} {X : Cx} {XE : XK} {N : List Str} {sc : Scope} {st : Str → Bool} {lam : Bool} {x : Str} {p pos : Pos} {e : Expr} {es : List Expr} {Es : List Mini.E}
theorem units_of {k : Nat} {A : Around} (h : Room k A) : A.units + 70 < cLine := by have := h.un; omega
theorem bi_of (S : Ctx G F T lv X XE N sc st lam) {b : BI} (hb : biB b x es.length = true) (hg : glB sc x = true) (hs : stars es = false) (hl : OkL F T X XE Es es) : SdE X T (wx XE) (.Call (.Name x p) es [] pos) (denE F (.bi b Es)) := by
  obtain ⟨g1, g2⟩ := gl_of S hg
  match es, Es, hl with
  | [], _, _ => cases b <;> simp [biB] at hb
  | e :: es, _, .cons (M := M) (Ms := Ms) h r =>
    have so := (OkL.cons h r).os hs
    obtain ⟨hs1, hs2⟩ := stars_cons hs
    have hst := star_of hs1 es X.env
    have hpl := stars_any hs2 pos X.env
    cases b with
    | isi t => cases hb
    | sum =>
      simp only [biB, Bool.and_eq_true, decide_eq_true_eq] at hb
      obtain ⟨rfl, h1⟩ := hb
      have : es = [] := List.eq_nil_of_length_eq_zero (by simpa using h1)
      subst this
      cases r
      exact sd_sum1 S.calm g1 (S.sta.bt _ (by decide)) so hst
    | len => simp only [biB, Bool.and_eq_true, decide_eq_true_eq] at hb; obtain ⟨rfl, _⟩ := hb; exact sd_biB bir_len g1 (S.sta.bt _ (by decide)) (by decide +kernel) so (by decide) g2 hst hpl
    | int => simp only [biB, Bool.and_eq_true, decide_eq_true_eq] at hb; obtain ⟨rfl, _⟩ := hb; exact sd_biT bir_int g1 (S.sta.bt _ (by decide)) (by decide +kernel) so (by decide) g2 hst hpl
    | tuple => simp only [biB, Bool.and_eq_true, decide_eq_true_eq] at hb; obtain ⟨rfl, _⟩ := hb; exact sd_biT bir_tuple g1 (S.sta.bt _ (by decide)) (by decide +kernel) so (by decide) g2 hst hpl
    | list => simp only [biB, Bool.and_eq_true, decide_eq_true_eq] at hb; obtain ⟨rfl, _⟩ := hb; exact sd_biT bir_list g1 (S.sta.bt _ (by decide)) (by decide +kernel) so (by decide) g2 hst hpl
    | sorted => simp only [biB, Bool.and_eq_true, decide_eq_true_eq] at hb; obtain ⟨rfl, _⟩ := hb; exact sd_biB (bir_sorted S.room (units_of S.room)) g1 (S.sta.bt _ (by decide)) (by decide +kernel) so (by decide) g2 hst hpl
    | all => simp only [biB, Bool.and_eq_true, decide_eq_true_eq] at hb; obtain ⟨rfl, _⟩ := hb; exact sd_biB (bir_all S.calm) g1 (S.sta.bt _ (by decide)) (by decide +kernel) so (by decide) g2 hst hpl
    | min => simp only [biB, Bool.and_eq_true, decide_eq_true_eq] at hb; obtain ⟨rfl, _⟩ := hb; exact sd_biB (bir_min S.calm) g1 (S.sta.bt _ (by decide)) (by decide +kernel) so (by decide) g2 hst hpl
    | max => simp only [biB, Bool.and_eq_true, decide_eq_true_eq] at hb; obtain ⟨rfl, _⟩ := hb; exact sd_biB (bir_max S.calm) g1 (S.sta.bt _ (by decide)) (by decide +kernel) so (by decide) g2 hst hpl
    | abs => simp only [biB, Bool.and_eq_true, decide_eq_true_eq] at hb; obtain ⟨rfl, _⟩ := hb; exact sd_biB bir_abs g1 (S.sta.bt _ (by decide)) (by decide +kernel) so (by decide) g2 hst hpl
    | repr => simp only [biB, Bool.and_eq_true, decide_eq_true_eq] at hb; obtain ⟨rfl, _⟩ := hb; exact sd_biB bir_repr g1 (S.sta.bt _ (by decide)) (by decide +kernel) so (by decide) g2 hst hpl
theorem ty_of (S : Ctx G F T lv X XE N sc st lam) {t : Ty} {c : Str} (h : tyB G t c = true) (hg : glB sc c = true) : ∃ cv, PE X (.Name c p) (tC cv) ∧ TyIs X.K X.mg F t cv := by
  obtain ⟨g1, g2⟩ := gl_of S hg
  cases t with
  | cls x =>
    simp only [tyB, Bool.and_eq_true, decide_eq_true_eq] at h
    obtain ⟨rfl, hm⟩ := h
    obtain ⟨C, hC⟩ := S.sta.cls _ hm
    exact ⟨.ref C, pe_glob g1 hC.c rfl g2, C, hC, rfl⟩
  | int => simp only [tyB, decide_eq_true_eq] at h; subst h; exact ⟨.ty "int", pe_bltn (u := .type "int") g1 (S.sta.bt _ (by decide)) (by decide +kernel) (show _ = _ from rfl) (by decide) g2, rfl⟩
  | bool => simp only [tyB, decide_eq_true_eq] at h; subst h; exact ⟨.ty "bool", pe_bltn (u := .type "bool") g1 (S.sta.bt _ (by decide)) (by decide +kernel) (show _ = _ from rfl) (by decide) g2, rfl⟩
  | str => simp only [tyB, decide_eq_true_eq] at h; subst h; exact ⟨.ty "str", pe_bltn (u := .type "str") g1 (S.sta.bt _ (by decide)) (by decide +kernel) (show _ = _ from rfl) (by decide) g2, rfl⟩
  | tup => simp only [tyB, decide_eq_true_eq] at h; subst h; exact ⟨.ty "tuple", pe_bltn (u := .type "tuple") g1 (S.sta.bt _ (by decide)) (by decide +kernel) (show _ = _ from rfl) (by decide) g2, rfl⟩
  | lst => simp only [tyB, decide_eq_true_eq] at h; subst h; exact ⟨.ty "list", pe_bltn (u := .type "list") g1 (S.sta.bt _ (by decide)) (by decide +kernel) (show _ = _ from rfl) (by decide) g2, rfl⟩
  | dic => simp only [tyB, decide_eq_true_eq] at h; subst h; exact ⟨.ty "dict", pe_bltn (u := .type "dict") g1 (S.sta.bt _ (by decide)) (by decide +kernel) (show _ = _ from rfl) (by decide) g2, rfl⟩
/-! keywords -/
theorem kw_all : ∀ {kws : List Keyword} {ks : List Str}, kws.map (·.arg) = ks.map some → ∀ (pos : Pos) (env : PySem.Env), (backToKw pos (keywordEach kws env)).all (·.1.isSome) = true ∧ (backToKw pos (keywordEach kws env)).filterMap (·.1) = ks ∧ (backToKw pos (keywordEach kws env)).any (·.1.isNone) = false
  | [], ks, h, pos, env => by
    cases ks with
    | nil => exact ⟨rfl, rfl, rfl⟩
    | cons k ks => cases h
  | ⟨nm, v, kp⟩ :: kws, ks, h, pos, env => by
    cases ks with
    | nil => cases h
    | cons k ks =>
      simp only [List.map_cons, List.cons.injEq] at h
      obtain ⟨h1, h2⟩ := h
      subst h1
      obtain ⟨e1, e2, e3⟩ := kw_all h2 pos env
      refine ⟨?_, ?_, ?_⟩
      · show (true && (backToKw pos (keywordEach kws env)).all (·.1.isSome)) = true
        rw [e1]; rfl
      · show k :: (backToKw pos (keywordEach kws env)).filterMap (·.1) = k :: ks
        rw [e2]
      · show (false || (backToKw pos (keywordEach kws env)).any (·.1.isNone)) = false
        rw [e3]; rfl
theorem ks_of : ∀ {Ws : List Mini.E} {kws : List Keyword}, OkL F T X XE Ws (kws.map (·.value)) → SdKs X T (wx XE) kws (vVs (denL F Ws))
  | _, [], h => by
    cases h
    exact sdks_nil
  | _, ⟨nm, v, kp⟩ :: kws, h => by
    have h' : OkL F T X XE _ (v :: kws.map (·.value)) := h
    cases h' with
    | cons h1 h2 => exact sdks_cons h1.v (ks_of h2)
theorem denL_len : ∀ Es : List Mini.E, (denL F Es).length = Es.length
  | [] => by rw [denL]; rfl
  | e :: es => by rw [denL, List.length_cons, List.length_cons, denL_len es]
/-! targets -/
theorem targets (es : List Expr) (h : stars es = false) (env : PySem.Env) : (assignEach es env).length = es.length ∧ (assignEach es env).findIdx? (·.1) = none := by
  induction es with
  | nil => exact ⟨rfl, rfl⟩
  | cons e es ih =>
    obtain ⟨h1, h2⟩ := stars_cons h
    obtain ⟨e1, e2⟩ := ih h2
    have : assignEach (e :: es) env = (false, assign e env) :: assignEach es env := by cases e <;> first | rfl | cases h1
    rw [this]
    refine ⟨by rw [List.length_cons, List.length_cons, e1], ?_⟩
    rw [List.findIdx?_cons]
    simp [e2]
theorem assign_cons {e : Expr} (h : star e = false) (es : List Expr) (env : PySem.Env) : (assignEach (e :: es) env).map (·.2) = assign e env :: (assignEach es env).map (·.2) := by
  cases e <;> first | rfl | cases h
mutual
theorem tg_of (S : Ctx G F T lv X XE N sc st lam) : ∀ (t : Tg) (e : Expr), tgB N sc st t e = true → SdG X T e t
  | .sl i, e, h => by
    unfold tgB at h
    split at h
    · rename_i x p
      obtain ⟨h1, h2, h3⟩ := loc_of S h
      exact sg_name (by rw [S.hN]; exact S.nd) h1 h2 h3
    · cases h
  | .tp ts, e, h => by
    unfold tgB at h
    split at h
    · rename_i es k p
      obtain ⟨h1, h2, h3⟩ := tgs_of S ts es h
      obtain ⟨t1, t2⟩ := targets es h2 X.env
      exact sg_tup S.calm h1 (by rw [t1, h3]) t2
    · cases h
theorem tgs_of (S : Ctx G F T lv X XE N sc st lam) : ∀ (ts : List Tg) (es : List Expr), tgsB N sc st ts es = true → PGs X es (TGrs X.K X.mg T ts) ∧ stars es = false ∧ es.length = ts.length
  | [], es, h => by
    unfold tgsB at h
    split at h
    · exact ⟨sgs_nil, rfl, rfl⟩
    · cases h
  | t :: ts, es, h => by
    unfold tgsB at h
    split at h
    · rename_i e es
      simp only [Bool.and_eq_true, Bool.not_eq_true'] at h
      obtain ⟨⟨h1, h2⟩, h3⟩ := h
      obtain ⟨g1, g2, g3⟩ := tgs_of S ts es h3
      exact ⟨sgs_cons (tg_of S t e h2) g1 (assign_cons h1 _ _), by unfold stars at g2 ⊢; rw [List.any_cons, h1, g2]; rfl, by rw [List.length_cons, List.length_cons, g3]⟩
    · cases h
end
theorem own_map (N : List Str) (own : List Nat) : (ownN N own).map (·.2) = own := by
  unfold ownN
  rw [List.map_map]
  exact List.map_id own
theorem fold_of {e : Expr} (h : noSet e = true) (env : PySem.Env) (x : Value) : foldedSetIterable e env x = pure x := by
  cases e <;> first | rfl | cases h
theorem behind_of {e : Expr} (h : noSet e = true) (o : CmpOp) : behindInMarks o e = false := by
  cases e <;> first | rfl | cases h
end
end Mini

/- M6d -/
set_option Elab.async false
set_option linter.all false
set_option maxRecDepth 100000
set_option maxHeartbeats 8000000
/-! MINI 6d: a checked expression does what its mini expression says. -/
namespace Mini
open PySem PySem.Spec PyProof.Rows L2 LamX
theorem Ctx.lamX {G : Stat} {F : Ifc} {T : List (Addr × Str)} {lv : Nat} {X : Cx} {E : XK} {N : List Str} {sc : Scope} {st : Str → Bool} {lam : Bool} (h : Ctx G F T lv X E N sc st lam) {A : Around} {outer : List PySem.Env} {s : Shared} {H : Hp} {E' : XK} {scope : Scope} {f c' : Addr}
    (hr : Room lv (A.deeper (lamEnv X scope s.heap.objs.size f c'))) : Ctx G F T lv (lamCx X A outer s H E' scope f c') E' N scope (fun _ => false) false where
  hN := h.hN
  nd := h.nd
  hsc := rfl
  calm := rfl
  hst := fun x q => by cases q
  tk := takes_lam
  room := hr
  lamR := fun q => by cases q
  sta := h.sta
section
variable {G : Stat} {F : Ifc} {T : List (Addr × Str)} {lv : Nat} {N : List Str}
theorem part_of {X : Cx} {XE : XK} {L : Mini.E} {o : Option Expr} {k : Expr → Bool} (h : partB L o k = true) (hk : ∀ e, k e = true → Ok F T X XE L e) : SdP X T (wx XE) o (vP (denE F L)) := by
  unfold partB at h
  cases o with
  | none =>
    dsimp only at h
    split at h
    · exact sdp_none
    · cases h
  | some e => exact sdp_some (sdV (hk e h).v)
theorem filter_some : ∀ {ks : List (Option Expr)}, ks.all (·.isSome) = true → ks = (ks.filterMap id).map some
  | [], _ => rfl
  | none :: ks, h => by cases h
  | some k :: ks, h => by
    rw [List.all_cons, Bool.and_eq_true] at h
    have := filter_some h.2
    show some k :: ks = some k :: (ks.filterMap id).map some
    rw [← this]
theorem ps_of {X : Cx} {XE : XK} {pos : Pos} : ∀ {Ks Vs : List Mini.E} {ks vs : List Expr}, OkL F T X XE Ks ks → OkL F T X XE Vs vs → ks.length = vs.length → SdPs X T (wx XE) F pos (ks.map some) vs Ks Vs
  | _, _, _, _, .nil, .nil, _ => sdps_nil
  | _, _, _, _, .cons h r, .cons h' r', hl => sdps_cons h.v h'.v (ps_of r r' (by simpa using hl))
  | _, _, _, _, .nil, .cons _ _, hl => by simp at hl
  | _, _, _, _, .cons _ _, .nil, hl => by simp at hl
mutual
theorem ck_ok : ∀ (M : Mini.E) (it : Bool) {X : Cx} {XE : XK} {sc : Scope} {st : Str → Bool} {lam : Bool} (e : Expr), Ctx G F T lv X XE N sc st lam → ck G N M it sc st lam e = true → Good F T X XE M it e
  | .slot i, it, X, XE, sc, st, lam, e, S, h => by
    unfold ck at h
    split at h
    · rename_i x p
      obtain ⟨h1, h2, h3, h4⟩ := slot_of S h
      have so := sdO_slot (T := T) (W := wx XE) (F := F) (pos := p) h1 h2 h3 h4
      exact Good.both ⟨sd_slot h1 h2 h3 h4, so, fun _ => sdT so (isTrue_plain rfl X.env), fun z => (by cases z), fun j hj => by cases hj; exact sdL_slot h1 h2 h3 h4⟩ (fun j hj => by cases hj; rfl)
    · cases h
  | .lit d, it, X, XE, sc, st, lam, e, S, h => by
    unfold ck at h
    split at h
    · rename_i c k p
      refine Good.both (Ok.of ?_ (fun i z => by cases z) rfl)
      cases d <;> cases c <;> first | cases h; done | skip
      · exact sd_non
      · have := eq_of_beq h; subst this; exact sd_bl
      · have := of_decide_eq_true h; subst this; exact sd_int
      · have := of_decide_eq_true h; subst this; exact sd_str
    · cases h
  | .glob x, it, X, XE, sc, st, lam, e, S, h => by
    unfold ck at h
    split at h
    · rename_i y p
      simp only [Bool.and_eq_true, decide_eq_true_eq] at h
      obtain ⟨rfl, hg⟩ := h
      obtain ⟨g1, g2⟩ := gl_of S hg
      exact Good.both (Ok.of (sd_glob g1 (fun d hd => S.sta.gl _ d hd) g2) (fun i z => by cases z) rfl)
    · cases h
  | .op o a b, it, X, XE, sc, st, lam, e, S, h => by
    unfold ck at h
    split at h
    · simp only [Bool.and_eq_true, decide_eq_true_eq] at h
      obtain ⟨⟨rfl, h1⟩, h2⟩ := h
      exact Good.both (Ok.of (sd_op (ck_ok a false _ S h1).ok.o (ck_ok b false _ S h2).ok.o) (fun i z => by cases z) rfl)
    · cases h
  | .neg a, it, X, XE, sc, st, lam, e, S, h => by
    unfold ck at h
    split at h
    · exact Good.both (Ok.of (sd_neg (ck_ok a false _ S h).ok.o) (fun i z => by cases z) rfl)
    · cases h
  | .notE a, it, X, XE, sc, st, lam, e, S, h => by
    unfold ck at h
    split at h
    · rw [Bool.and_eq_true] at h
      have o := (ck_ok a false _ S h.1).ok
      exact Good.both (Ok.ofT (sd_not o.o) (fun i z => by cases z) (sdt_not (o.t h.2)) rfl)
    · cases h
  | .andE a b, it, X, XE, sc, st, lam, e, S, h => by
    unfold ck at h
    split at h
    · rename_i x y rest p
      simp only [Bool.and_eq_true] at h
      obtain ⟨⟨h1, h2⟩, h3⟩ := h
      have oa := (ck_ok a false _ S h1).ok
      have hb : SdE X T (wx XE) (.BoolOp .And (y :: rest) p) (denE F b) ∧ SdW X T (wx XE) (.BoolOp .And (y :: rest) p) (vT b (denE F b)) := by
        cases rest with
        | nil =>
          rw [Bool.and_eq_true] at h3
          have ob := (ck_ok b false _ S h3.1).ok
          exact ⟨sd_one ob.v, sdw_one (ob.t h3.2)⟩
        | cons z zs =>
          have ob := (ck_ok b false _ S h3).ok
          exact ⟨ob.v, ob.w rfl⟩
      have hv := sd_and oa.v hb.1
      have hw := sdw_and (oa.t h2) hb.2
      exact Good.both ⟨hv, sdO hv (fun i z => by cases z), fun _ => hw.pt, fun _ => hw, fun i z => by cases z⟩
    · cases h
  | .orE a b, it, X, XE, sc, st, lam, e, S, h => by
    unfold ck at h
    split at h
    · rename_i x y rest p
      simp only [Bool.and_eq_true] at h
      obtain ⟨⟨h1, h2⟩, h3⟩ := h
      have oa := (ck_ok a false _ S h1).ok
      have hb : SdE X T (wx XE) (.BoolOp .Or (y :: rest) p) (denE F b) ∧ SdW X T (wx XE) (.BoolOp .Or (y :: rest) p) (vT b (denE F b)) := by
        cases rest with
        | nil =>
          rw [Bool.and_eq_true] at h3
          have ob := (ck_ok b false _ S h3.1).ok
          exact ⟨sd_one ob.v, sdw_one (ob.t h3.2)⟩
        | cons z zs =>
          have ob := (ck_ok b false _ S h3).ok
          exact ⟨ob.v, ob.w rfl⟩
      have hv := sd_or oa.v hb.1
      have hw := sdw_or (oa.t h2) hb.2
      exact Good.both ⟨hv, sdO hv (fun i z => by cases z), fun _ => hw.pt, fun _ => hw, fun i z => by cases z⟩
    · cases h
  | .cmp c a b, it, X, XE, sc, st, lam, e, S, h => by
    unfold ck at h
    split at h
    · simp only [Bool.and_eq_true, decide_eq_true_eq] at h
      obtain ⟨⟨⟨rfl, h0⟩, h1⟩, h2⟩ := h
      have oa := (ck_ok a false _ S h1).ok.o
      have ob := (ck_ok b false _ S h2).ok.o
      exact Good.both (Ok.ofT (sd_cmp S.room oa ob (behind_of h0 _)) (fun i z => by cases z) (sdt_cmp S.room oa ob (behind_of h0 _)) rfl)
    · cases h
  | .chain c1 c2 a b c, it, X, XE, sc, st, lam, e, S, h => by
    unfold ck at h
    split at h
    · rename_i l o1 o2 r1 r2 p
      simp only [Bool.and_eq_true, decide_eq_true_eq] at h
      obtain ⟨⟨⟨⟨⟨rfl, rfl⟩, h0⟩, h1⟩, h2⟩, h3⟩ := h
      have oa := (ck_ok a false _ S h1).ok.o
      have ob := (ck_ok b false _ S h2).ok.o
      have oc := (ck_ok c false _ S h3).ok.o
      have hm : lastMarks [c1.py, c2.py] [r1, r2] = false := behind_of h0 c2.py
      exact Good.both (Ok.ofT (sd_chain S.room oa ob oc hm) (fun i z => by cases z) (sdt_chain S.room oa ob oc hm) rfl)
    · cases h
  | .ite c a b, it, X, XE, sc, st, lam, e, S, h => by
    unfold ck at h
    split at h
    · rename_i t x y p
      simp only [Bool.and_eq_true] at h
      obtain ⟨⟨⟨h0, h1⟩, h2⟩, h3⟩ := h
      have hv := sd_ite (pos := p) ((ck_ok c false _ S h1).ok.t h0) (sdV (ck_ok a false _ S h2).ok.v) (sdV (ck_ok b false _ S h3).ok.v)
      exact Good.both ⟨hv, sdO hv (fun i z => by cases z), fun z => (by cases z), fun z => (by cases z), fun i z => by cases z⟩
    · cases h
  | .tup fl es, it, X, XE, sc, st, lam, e, S, h => by
    unfold ck at h
    split at h
    · exact Good.both (Ok.of (sd_tup (ckS_ok es fl _ S h)) (fun i z => by cases z) rfl)
    · cases h
  | .lst fl es, it, X, XE, sc, st, lam, e, S, h => by
    unfold ck at h
    split at h
    · exact Good.both (Ok.of (sd_lst (ckS_ok es fl _ S h)) (fun i z => by cases z) rfl)
    · cases h
  | .dict ks vs, it, X, XE, sc, st, lam, e, S, h => by
    unfold ck at h
    split at h
    · rename_i kx vx p
      simp only [Bool.and_eq_true, decide_eq_true_eq] at h
      obtain ⟨⟨⟨⟨h0, h1⟩, h2⟩, h3⟩, h4⟩ := h
      have o1 := ckL_ok ks _ S h3
      have o2 := ckL_ok vs _ S h4
      have ek := filter_some h0
      have el : (kx.filterMap id).length = vx.length := by rw [← h1]; conv => rhs; rw [ek]; rw [List.length_map]
      refine Good.both (Ok.of ?_ (fun i z => by cases z) rfl)
      by_cases hn : kx = []
      · subst hn
        have e2 : vx = [] := List.eq_nil_of_length_eq_zero h1.symm
        subst e2
        cases o1
        cases o2
        exact sd_dict0
      · have hp := ps_of (pos := p) o1 o2 el
        rw [← ek] at hp
        exact sd_dict hp h0 h1 hn h2
    · cases h
  | .idx a i, it, X, XE, sc, st, lam, e, S, h => by
    unfold ck at h
    split at h
    · simp only [Bool.and_eq_true] at h
      obtain ⟨⟨h0, h1⟩, h2⟩ := h
      exact Good.both (Ok.of (sd_idx S.room (ck_ok a false _ S h1).ok.o (sdV (ck_ok i false _ S h2).ok.v) h0) (fun i z => by cases z) rfl)
    · cases h
  | .slice a l hh, it, X, XE, sc, st, lam, e, S, h => by
    unfold ck at h
    split at h
    · simp only [Bool.and_eq_true] at h
      obtain ⟨⟨h0, h1⟩, h2⟩ := h
      exact Good.both (Ok.of (sd_slice (ck_ok a false _ S h0).ok.o (part_of h1 fun e he => (ck_ok l false _ S he).ok) (part_of h2 fun e he => (ck_ok hh false _ S he).ok)) (fun i z => by cases z) rfl)
    · cases h
  | .rev a, it, X, XE, sc, st, lam, e, S, h => by
    unfold ck at h
    split at h
    · rename_i x s p
      rw [Bool.and_eq_true] at h
      obtain ⟨h0, h1⟩ := h
      unfold isRev at h0
      split at h0
      · exact Good.both (Ok.of (sd_rev (ck_ok a false _ S h1).ok.o) (fun i z => by cases z) rfl)
      · cases h0
    · cases h
  | .call f as ks ws, it, X, XE, sc, st, lam, e, S, h => by
    unfold ck at h
    split at h
    · rename_i x p args kws p2
      simp only [Bool.and_eq_true, decide_eq_true_eq, Bool.not_eq_true'] at h
      obtain ⟨⟨⟨⟨⟨⟨⟨⟨rfl, h1⟩, h2⟩, h3⟩, h4⟩, h5⟩, h6⟩, h7⟩, h8⟩ := h
      obtain ⟨g1, g2⟩ := gl_of S h1
      obtain ⟨ei, fa, fd, dvs, FI, hb⟩ := S.sta.fn _ h2
      have o1 := ckL_ok as _ S h5
      have o2 := ckL_ok ws _ S h8
      obtain ⟨k1, k2, k3⟩ := kw_all h7 p2 X.env
      have hw : (denL F ws).length = ks.length := by
        rw [denL_len, o2.len, List.length_map]
        have := congrArg List.length h7
        simpa using this
      have hbn := hb _ _ h3
      rw [← denL_len (F := F)] at hbn
      refine Good.both (Ok.of ?_ (fun i z => by cases z) rfl)
      match args, as, o1, h4, h6, hbn with
      | [], _, .nil, h4, h6, hbn => exact sd_call0 S.tk S.room FI hbn g1 g2 (ks_of o2) hw k1 k2 (by rw [k3]; rfl)
      | a :: args, _, .cons (Ms := Ms) (M := M) q r, h4, h6, hbn =>
        have hs := stars_cons h4
        refine sd_call S.tk S.room FI hbn g1 g2 (by rw [ei]; exact (OkL.cons q r).as h4 h6) (ks_of o2) hw k1 k2 (star_of hs.1 _ _) ?_
        rw [k3, stars_any h4]
        rfl
    · cases h
  | .callv i fs as, it, X, XE, sc, st, lam, e, S, h => by
    unfold ck at h
    split at h
    · rename_i x p args p2
      simp only [Bool.and_eq_true, decide_eq_true_eq, Bool.not_eq_true', List.all_eq_true] at h
      obtain ⟨⟨⟨⟨h1, h2⟩, h3⟩, h4⟩, h5⟩ := h
      obtain ⟨s1, s2, s3, s4⟩ := slot_of S h1
      have o1 := ckL_ok as _ S h5
      refine Good.both (Ok.of ?_ (fun i z => by cases z) rfl)
      match args, as, o1, h3, h4, h2 with
      | [], _, _, _, h4, _ => exact absurd rfl h4
      | a :: args, _, .cons (Ms := Ms) (M := M) q r, h3, _, h2 =>
        have hs := stars_cons h3
        refine sd_callv S.tk S.room (fun f hf => ?_) s1 s2 s3 s4 ((OkL.cons q r).vs h3) (star_of hs.1 _ _) (stars_any hs.2 _ _)
        obtain ⟨ei, fa, fd, dvs, FI, hb⟩ := S.sta.fn _ (h2 f hf).1
        exact ⟨fa, fd, dvs, FI, by rw [denL_len]; exact hb _ _ (h2 f hf).2⟩
    · cases h
  | .bi b as, it, X, XE, sc, st, lam, e, S, h => by
    unfold ck at h
    split at h
    · rename_i x p args p2
      simp only [Bool.and_eq_true, Bool.not_eq_true'] at h
      obtain ⟨⟨h1, h2⟩, h3⟩ := h
      refine Good.both (Ok.of ?_ (fun i z => by cases z) rfl)
      split at h3
      · rename_i t
        simp only [Bool.and_eq_true, decide_eq_true_eq] at h3
        obtain ⟨rfl, h3⟩ := h3
        split at h3
        · rename_i a c pc
          simp only [Bool.and_eq_true] at h3
          obtain ⟨⟨h4, h5⟩, h6⟩ := h3
          have o1 := ckL_ok as _ S h4
          obtain ⟨g1, g2⟩ := gl_of S h1
          match as, o1 with
          | [A], .cons q .nil => exact sd_isi g1 (S.sta.bt _ (by decide)) q.o (stars_cons h2).1 (ty_of S h5 h6)
        · cases h3
      · simp only [Bool.and_eq_true] at h3
        exact bi_of S h3.1 h1 h2 (ckL_ok as _ S h3.2)
    · cases h
  | .app i a, it, X, XE, sc, st, lam, e, S, h => by
    unfold ck at h
    split at h
    · rename_i x p m ap y cp
      simp only [Bool.and_eq_true, decide_eq_true_eq, Bool.not_eq_true'] at h
      obtain ⟨⟨⟨⟨rfl, h1⟩, h2⟩, h3⟩, h4⟩ := h
      obtain ⟨s1, s2, s3, s4⟩ := slot_of S h1
      refine Good.both (Ok.of (sd_app s1 s2 s3 s4 (ck_ok a false _ S h4).ok.v ?_ h3 (star_of h2 _ _)) (fun i z => by cases z) rfl)
      rw [star_of h2]
      rfl
    · cases h
  | .pop i, it, X, XE, sc, st, lam, e, S, h => by
    unfold ck at h
    split at h
    · rename_i x p m ap cp
      simp only [Bool.and_eq_true, decide_eq_true_eq] at h
      obtain ⟨⟨rfl, h1⟩, h3⟩ := h
      obtain ⟨s1, s2, s3, s4⟩ := slot_of S h1
      exact Good.both (Ok.of (sd_pop s1 s2 s3 s4 h3) (fun i z => by cases z) rfl)
    · cases h
  | .comp own t ite ifs elt, it, X, XE, sc, st, lam, e, S, h => by
    unfold ck at h
    split at h
    · rename_i x tg iter fs scope p
      simp only [Bool.and_eq_true, decide_eq_true_eq, List.all_eq_true] at h
      obtain ⟨⟨⟨⟨⟨⟨⟨⟨h0, h1⟩, h2⟩, h3⟩, h4⟩, h5⟩, h6⟩, h7⟩, h8⟩ := h
      have hi := (ck_ok ite true _ S h1).2 rfl tg
      have hb : BlkOk X.N X.env.scope scope (ownN N own) := by rw [S.hN, S.hsc]; exact blkOk_by h2
      have key := sd_comp (pos := p) (ifs := fs) (elt := x) S.calm (by rw [S.hN]; exact S.nd) hi hb (t := t) (Elt := elt) (Ifs := ifs) (by rw [own_map]; exact h3) (fun s H C cl fp => tg_of (S.blk s H scope C cl fp) t tg h4) (fun s H C cl fp => ?_)
        (fun s H C cl fp => (ck_ok elt false _ (S.blk s H scope C cl fp) h8).ok.v) (fun v => fold_of h0 _ v)
      · rw [own_map] at key
        exact Good.both (Ok.of key (fun i z => by cases z) rfl)
      · have o1 := ckL_ok ifs _ (S.blk s H scope C cl fp) h7
        match fs, ifs, o1, h5, h6 with
        | [], _, .nil, _, _ => exact sdts_nil
        | [c], [C'], .cons q .nil, _, h6 => exact sdts_one (q.t (h6 c List.mem_cons_self))
        | _ :: _ :: _, _, _, h5, _ => simp at h5
    · cases h
  | .range es, it, X, XE, sc, st, lam, e, S, h => by
    unfold ck at h
    split at h
    · rename_i x p args p2
      simp only [Bool.and_eq_true, decide_eq_true_eq, Bool.not_eq_true'] at h
      obtain ⟨⟨⟨⟨⟨h0, rfl⟩, h1⟩, h2⟩, h3⟩, h4⟩ := h
      subst h0
      obtain ⟨g1, g2⟩ := gl_of S h1
      have o1 := ckL_ok es _ S h4
      have hm := S.sta.bt "range" (by decide)
      refine ⟨fun z => (by cases z), fun _ tg => ?_⟩
      match args, es, o1, h2, h3 with
      | [a], [A], .cons q .nil, h2, _ => exact si_range1 g1 hm ((OkL.cons q .nil).vs h2) (star_of (stars_cons h2).1 _ _)
      | [a, b], [A, B], .cons q (.cons q2 .nil), h2, _ =>
        have hs := stars_cons h2
        have hs2 := stars_cons hs.2
        exact si_range2 g1 hm ((OkL.cons q (.cons q2 .nil)).vs h2) (by rw [star_of hs.1, star_of hs2.1]; rfl) (by rw [star_of hs2.1]; rfl)
      | [a, b, c], [A, B, C], .cons q (.cons q2 (.cons q3 .nil)), h2, _ =>
        have hs := stars_cons h2
        exact si_range3 g1 hm ((OkL.cons q (.cons q2 (.cons q3 .nil))).vs h2) (star_of hs.1 _ _) (stars_any hs.2 _ _)
      | [], _, _, _, h3 => simp at h3
      | _ :: _ :: _ :: _ :: _, _, _, _, h3 => simp at h3
    · cases h
  | .caught c, it, X, XE, sc, st, lam, e, S, h => by
    unfold ck at h
    split at h
    · rename_i x p ps body scope lp p2
      simp only [Bool.and_eq_true, decide_eq_true_eq] at h
      obtain ⟨⟨⟨⟨⟨h0, h1⟩, h2⟩, h3⟩, h4⟩, h5⟩ := h
      obtain ⟨g1, g2⟩ := gl_of S h2
      obtain ⟨hr, cc, Pt, TB, hcode, hmT, hu⟩ := S.lamR h0
      obtain ⟨g, CS, a, pg, bg, sg, dV, kV, doc, pm, cdv, ct, oc, an, od, osl, Ng, f1, f2, f3, f4, f5, f6, f7, f8, f9, f10, f11, f12⟩ := (S.sta.ct _ h1).ex
      unfold paramsB at h3
      split at h3
      · refine Good.both (Ok.of (sd_caught f1 g1 f2 f3 f4 f5 f6 f7 f8 f9 (f10 X _ rfl rfl rfl rfl rfl) TB hcode hmT hu hr (lamS_by (by rw [S.hsc]; exact h4)) rfl (fun _ _ _ _ _ => rfl) (fun A outer s H E f c' hr2 => (ck_ok c false _ (S.lamX hr2) h5).ok.v) g2 f11 f12) (fun i z => by cases z) rfl)
      · cases h3
    · cases h
  | .never, it, X, XE, sc, st, lam, e, S, h => by
    unfold ck at h
    have hit : it = false := by simpa using h
    subst hit
    refine ⟨fun _ => ⟨sd_never, sdO sd_never (fun i z => by cases z), fun _ => ⟨fun pins s σ H Q I ⟨P, la, S, ρ, R, q⟩ => ?_⟩, fun _ => ⟨fun wh pins s σ H Q I ⟨P, la, S, ρ, R, q⟩ => ?_⟩, fun i z => by cases z⟩, fun z => by cases z⟩
    · have e : vT .never (denE F .never) ρ = .bad := by unfold vT vO; dsimp only; rw [denE]; rfl
      rw [e] at q; exact q.elim
    · have e : vT .never (denE F .never) ρ = .bad := by unfold vT vO; dsimp only; rw [denE]; rfl
      rw [e] at q; exact q.elim
  | .comp2 own own2 t ite ifs t2 it2 ifs2 elt, it, X, XE, sc, st, lam, e, S, h => by
    unfold ck at h
    split at h
    · rename_i x tg iter fs tg2 iter2 fs2 scope p
      simp only [Bool.and_eq_true, decide_eq_true_eq, List.all_eq_true] at h
      obtain ⟨⟨⟨⟨⟨⟨⟨⟨⟨⟨⟨⟨⟨⟨⟨⟨h0, h00⟩, h1⟩, h2⟩, h3⟩, h32⟩, h33⟩, h4⟩, h42⟩, h5⟩, h6⟩, h7⟩, h12⟩, h52⟩, h62⟩, h72⟩, h8⟩ := h
      have hi := (ck_ok ite true _ S h1).2 rfl tg
      have hb : BlkOk X.N X.env.scope scope (ownN N own) := by rw [S.hN, S.hsc]; exact blkOk_by h2
      have key := sd_comp2 (pos := p) (ifs := fs) (ifs2 := fs2) (elt := x) S.calm (by rw [S.hN]; exact S.nd) hi hb (t := t) (t2 := t2) (own2 := own2) (Elt := elt) (Ifs := ifs) (Ifs2 := ifs2) (It2 := it2) (by rw [own_map]; exact h3) h32 (by rw [own_map]; exact h33)
        (fun s H C cl fp => tg_of (S.blk s H scope C cl fp) t tg h4) (fun s H C cl fp => ?_) (fun s H C cl fp => (ck_ok it2 true _ (S.blk s H scope C cl fp) h12).2 rfl tg2) (fun s H C cl fp => tg_of (S.blk s H scope C cl fp) t2 tg2 h42) (fun s H C cl fp => ?_)
        (fun s H C cl fp => (ck_ok elt false _ (S.blk s H scope C cl fp) h8).ok.v) (fun v => fold_of h0 _ v) (fun env v => fold_of h00 env v)
      · rw [own_map] at key
        exact Good.both (Ok.of key (fun i z => by cases z) rfl)
      · have o1 := ckL_ok ifs _ (S.blk s H scope C cl fp) h7
        match fs, ifs, o1, h5, h6 with
        | [], _, .nil, _, _ => exact sdts_nil
        | [c], [C'], .cons q .nil, _, h6 => exact sdts_one (q.t (h6 c List.mem_cons_self))
        | _ :: _ :: _, _, _, h5, _ => simp at h5
      · have o1 := ckL_ok ifs2 _ (S.blk s H scope C cl fp) h72
        match fs2, ifs2, o1, h52, h62 with
        | [], _, .nil, _, _ => exact sdts_nil
        | [c], [C'], .cons q .nil, _, h6 => exact sdts_one (q.t (h6 c List.mem_cons_self))
        | _ :: _ :: _, _, _, h5, _ => simp at h5
    · cases h
  | .enum _, it, X, XE, sc, st, lam, e, S, h => by unfold ck at h; cases h
  | .zip _, it, X, XE, sc, st, lam, e, S, h => by unfold ck at h; cases h
  | .attr _ _, it, X, XE, sc, st, lam, e, S, h => by unfold ck at h; cases h
theorem ckL_ok : ∀ (Ms : List Mini.E) {X : Cx} {XE : XK} {sc : Scope} {st : Str → Bool} {lam : Bool} (es : List Expr), Ctx G F T lv X XE N sc st lam → ckL G N Ms sc st lam es = true → OkL F T X XE Ms es
  | [], X, XE, sc, st, lam, es, S, h => by
    unfold ckL at h
    split at h
    · exact .nil
    · cases h
  | M :: Ms, X, XE, sc, st, lam, es, S, h => by
    unfold ckL at h
    split at h
    · rw [Bool.and_eq_true] at h
      exact .cons (ck_ok M false _ S h.1).ok (ckL_ok Ms _ S h.2)
    · cases h
theorem ckS_ok : ∀ (Ms : List Mini.E) (fl : List Bool) {X : Cx} {XE : XK} {sc : Scope} {st : Str → Bool} {lam : Bool} (es : List Expr), Ctx G F T lv X XE N sc st lam → ckS G N Ms fl sc st lam es = true → SdA X T (wx XE) es (spr fl (denL F Ms))
  | [], fl, X, XE, sc, st, lam, es, S, h => by
    unfold ckS at h
    split at h
    · exact sda_nil
    · cases h
  | M :: Ms, fl, X, XE, sc, st, lam, es, S, h => by
    unfold ckS at h
    split at h
    · simp only [Bool.and_eq_true, Bool.not_eq_true'] at h
      obtain ⟨⟨h0, h1⟩, h2⟩ := h
      exact sda_cons (ck_ok M false _ S h1).ok.v (ckS_ok Ms _ _ S h2) (star_of h0 _ _)
    · rw [Bool.and_eq_true] at h
      exact sda_star (ck_ok M false _ S h.1).ok.v (ckS_ok Ms _ _ S h.2)
    · cases h
end
end
end Mini

/- M7 -/
set_option Elab.async false
set_option linter.all false
set_option maxRecDepth 100000
set_option maxHeartbeats 8000000
/-! MINI 7: the check of statements. -/
namespace Mini
open PySem PySem.Spec PyProof.Rows L2 LamX
def isCompr : Expr → Bool
  | .ListComp .. | .SetComp .. | .DictComp .. => true
  | _ => false
def swB (sc : Scope) (v : Expr) (x : Str) (p : Pos) : Bool := match v with
  | .ListComp _ _ s cp => decide (sc.names.lookup x = some .local) && (p.line == cp.line) && !(s.names.any fun (n, k) => n == x && (k == .local || k == .cell))
  | _ => false
def swOk : Expr → Bool
  | .SetComp .. | .DictComp .. => false
  | _ => true
theorem sw_of {v : Expr} {x : Str} {p : Pos} {l : Nat} {env : PySem.Env} {sc : Scope} (h : swOk v = true) (hs : env.scope = sc) (hk : env.blockKind = .function) : swapsWith v (some (.Name x p)) l env = pure (swB sc v x p) := by
  cases v <;> first | rfl | cases h | skip
  rename_i elt gs s cp
  show (pure (env.blockKind == .function && env.kindOf x == some .local && p.line == (Expr.ListComp elt gs s cp).pos.line && !(s.names.any fun (n, k) => n == x && (k == .local || k == .cell))) : Sem Bool) = _
  congr 1
  unfold swB
  dsimp only
  rw [hk, ← hs]
  have e : (env.kindOf x == some NameKind.local) = decide (env.scope.names.lookup x = some .local) := by
    show (env.scope.names.lookup x == some NameKind.local) = _
    cases hd : decide (env.scope.names.lookup x = some .local) with
    | true => rw [of_decide_eq_true hd]; rfl
    | false =>
      have := of_decide_eq_false hd
      cases hq : (env.scope.names.lookup x == some NameKind.local) with
      | false => rfl
      | true => exact absurd (by simpa using hq) this
  rw [e]
  rfl
theorem sw_tuple {v : Expr} {es : List Expr} {k : Nat} {p : Pos} {l : Nat} {env : PySem.Env} : swapsWith v (some (.Tuple es k p)) l env = pure false := by
  cases v <;> rfl
theorem sw_sub {v o i : Expr} {p : Pos} {l : Nat} {env : PySem.Env} : swapsWith v (some (.Subscript o i p)) l env = pure false := by
  cases v <;> rfl
theorem sw_none {v : Expr} {l : Nat} {env : PySem.Env} (h : isCompr v = false) : swapsWith v none l env = pure false := by
  cases v <;> first | rfl | cases h
def isTup : Expr → Bool
  | .Tuple .. => true
  | _ => false
theorem sws_not {v : Expr} {es : List Expr} {k : Nat} {p : Pos} {env : PySem.Env} (h : isTup v = false) : swappedStores [.Tuple es k p] v env = pure none := by
  cases v <;> first | rfl | cases h
def locN (sc : Scope) (e : Expr) : Bool := match e with
  | .Name x _ => decide (sc.names.lookup x = some .local)
  | _ => false
def noneB (sc : Scope) (ts vs : List Expr) : Bool := !(ts.length == 2 || ts.length == 3) || vs.length != ts.length || ts.any (fun e => !locN sc e) || vs.all (foldedForSure 8)
theorem fm_len {α β : Type} {f : α → Option β} : ∀ {l : List α}, (∃ x ∈ l, f x = none) → (l.filterMap f).length < l.length
  | [], ⟨x, h, _⟩ => by cases h
  | a :: l, ⟨x, h, hx⟩ => by
    have le : (l.filterMap f).length ≤ l.length := List.length_filterMap_le f l
    rw [List.filterMap_cons]
    rcases List.mem_cons.mp h with rfl | h
    · rw [hx]
      exact Nat.lt_succ_of_le le
    · have := fm_len ⟨x, h, hx⟩
      cases f a with
      | none => exact Nat.lt_succ_of_lt this
      | some b => exact Nat.succ_lt_succ this
theorem sws_none {ts vs : List Expr} {k k2 : Nat} {p p2 : Pos} {env : PySem.Env} {sc : Scope} (hs : env.scope = sc) (h : noneB sc ts vs = true) : swappedStores [.Tuple ts k p] (.Tuple vs k2 p2) env = pure none := by
  unfold swappedStores
  dsimp only [bind, pure]
  unfold noneB at h
  simp only [Bool.or_eq_true] at h
  split
  · rfl
  · rename_i h1
    split
    · rfl
    · split
      · rfl
      · rename_i h3
        split
        · rfl
        · rename_i h4
          exfalso
          rcases h with ((h | h) | h) | h
          · simp [h] at h1
          · simp [h] at h1
          · simp only [Bool.or_eq_true, not_or, bne_iff_ne, ne_eq, Decidable.not_not] at h3
            obtain ⟨e, he, hne⟩ := List.any_eq_true.mp h
            have := fm_len (l := ts) (f := fun
              | .Name id pos => if env.kindOf id == some .local && pos.line == (ts.head?.map (·.pos.line)).getD 0 then some id else none
              | _ => none) ⟨e, he, by
                unfold locN at hne
                cases e <;> first | rfl | skip
                rename_i x px
                have hx : sc.names.lookup x ≠ some .local := by simpa using hne
                have hk : (env.kindOf x == some NameKind.local) = false := by
                  show (env.scope.names.lookup x == some NameKind.local) = false
                  rw [hs]
                  exact beq_eq_false_iff_ne.mpr hx
                show (if (env.kindOf x == some NameKind.local && _) = true then some x else none) = none
                rw [hk, Bool.false_and, if_neg Bool.false_ne_true]⟩
            exact absurd h3.1 (Nat.ne_of_lt this)
          · exact h4 h
theorem star_any (vs : List Expr) (h : stars vs = false) : (vs.any fun | .Starred .. => true | _ => false) = false := by
  unfold stars at h
  refine Eq.trans ?_ h
  exact congrArg (fun f => List.any vs f) (funext fun e => by cases e <;> rfl)
def swapB (vs : List Expr) : Bool := !stars vs && !(vs.all (foldedForSure 8)) && !(vs.all (constantsAlone 8))
theorem sws_two {x y : Str} {px py p p2 : Pos} {k k2 : Nat} {a b : Expr} {env : PySem.Env} {sc : Scope} (hs : env.scope = sc) (hk : env.blockKind = .function) (hx : sc.names.lookup x = some .local) (hy : sc.names.lookup y = some .local) (hl : (py.line == px.line) = true) (hxy : x ≠ y) (h : swapB [a, b] = true) :
    swappedStores [.Tuple [.Name x px, .Name y py] k p] (.Tuple [a, b] k2 p2) env = pure (some [x, y]) := by
  unfold swapB at h
  simp only [Bool.and_eq_true, Bool.not_eq_true'] at h
  obtain ⟨⟨h1, h2⟩, h3⟩ := h
  have ex : (env.kindOf x == some NameKind.local) = true := by show (env.scope.names.lookup x == _) = true; rw [hs, hx]; rfl
  have ey : (env.kindOf y == some NameKind.local) = true := by show (env.scope.names.lookup y == _) = true; rw [hs, hy]; rfl
  have kx : env.kindOf x = some NameKind.local := by show env.scope.names.lookup x = _; rw [hs, hx]
  have ky : env.kindOf y = some NameKind.local := by show env.scope.names.lookup y = _; rw [hs, hy]
  have hl' : py.line = px.line := eq_of_beq hl
  have pp : (Expr.Name x px).pos = px := rfl
  have ha : star a = false ∧ star b = false := ⟨(stars_cons h1).1, (stars_cons (stars_cons h1).2).1⟩
  have sa : ∀ e, star e = false → (match e with | .Starred .. => true | _ => false) = false := fun e h => by cases e <;> first | rfl | cases h
  unfold swappedStores
  dsimp only
  split
  · rename_i q; rw [hk] at q; cases q
  · split
    · rename_i q
      exact absurd (Eq.trans (star_any [a, b] h1).symm q) Bool.false_ne_true
    · split
      · rename_i q
        exfalso
        simp [List.filterMap_cons, pp, kx, ky, hl', List.eraseDups_cons, Ne.symm hxy] at q
      · split
        · rename_i q
          rw [h2] at q; cases q
        · split
          · rename_i q
            rw [h3] at q; cases q
          · simp [List.filterMap_cons, pp, kx, ky, hl']
theorem sws_three {x y z : Str} {px py pz p p2 : Pos} {k k2 : Nat} {a b c : Expr} {env : PySem.Env} {sc : Scope} (hs : env.scope = sc) (hk : env.blockKind = .function) (hx : sc.names.lookup x = some .local) (hy : sc.names.lookup y = some .local) (hz : sc.names.lookup z = some .local) (hl : (py.line == px.line) = true) (hl2 : (pz.line == px.line) = true)
    (hxy : x ≠ y) (hxz : x ≠ z) (hyz : y ≠ z) (h : swapB [a, b, c] = true) : swappedStores [.Tuple [.Name x px, .Name y py, .Name z pz] k p] (.Tuple [a, b, c] k2 p2) env = pure (some [x, y, z]) := by
  unfold swapB at h
  simp only [Bool.and_eq_true, Bool.not_eq_true'] at h
  obtain ⟨⟨h1, h2⟩, h3⟩ := h
  have kx : env.kindOf x = some NameKind.local := by show env.scope.names.lookup x = _; rw [hs, hx]
  have ky : env.kindOf y = some NameKind.local := by show env.scope.names.lookup y = _; rw [hs, hy]
  have kz : env.kindOf z = some NameKind.local := by show env.scope.names.lookup z = _; rw [hs, hz]
  have hl' : py.line = px.line := eq_of_beq hl
  have pp : (Expr.Name x px).pos = px := rfl
  have hl2' : pz.line = px.line := eq_of_beq hl2
  unfold swappedStores
  dsimp only
  split
  · rename_i q; rw [hk] at q; cases q
  · split
    · rename_i q
      exact absurd (Eq.trans (star_any [a, b, c] h1).symm q) Bool.false_ne_true
    · split
      · rename_i q
        exfalso
        simp [List.filterMap_cons, pp, kx, ky, kz, hl', hl2', List.eraseDups_cons, Ne.symm hxy, Ne.symm hxz, Ne.symm hyz] at q
      · split
        · rename_i q
          rw [h2] at q; cases q
        · split
          · rename_i q
            rw [h3] at q; cases q
          · simp [List.filterMap_cons, pp, kx, ky, kz, hl', hl2']
end Mini

/- M7b -/
set_option Elab.async false
set_option linter.all false
set_option maxRecDepth 100000
set_option maxHeartbeats 8000000
/-! MINI 7b: a checked suite does what its mini suite says. -/
namespace Mini
open PySem PySem.Spec PyProof.Rows L2 LamX
theorem sole_tuple {v : Expr} {es : List Expr} {k : Nat} {p : Pos} {l : Nat} {env : PySem.Env} : swapsWithSole [.Tuple es k p] v l env = pure false := by
  cases v <;> rfl
def nsB (N : List Str) (sc : Scope) (st : Str → Bool) : List Nat → List Expr → Bool
  | [], [] => true
  | i :: is, .Name x _ :: es => locB N sc st i x && nsB N sc st is es
  | _, _ => false
/-- how several values go to several names -/
def parB (sc : Scope) (ts : List Nat) (tes vs : List Expr) : Bool := match ts, tes, vs with
  | [i, j], [.Name x px, .Name y py], [a, b] => decide (i ≠ j) && decide (x ≠ y) && decide (sc.names.lookup x = some .local) && decide (sc.names.lookup y = some .local) && (py.line == px.line) && swapB [a, b]
  | [i, j, l], [.Name x px, .Name y py, .Name z pz], [a, b, c] => decide (i ≠ j) && decide (i ≠ l) && decide (j ≠ l) && decide (x ≠ y) && decide (x ≠ z) && decide (y ≠ z) && decide (sc.names.lookup x = some .local) && decide (sc.names.lookup y = some .local) && decide (sc.names.lookup z = some .local) &&
      (py.line == px.line) && (pz.line == px.line) && swapB [a, b, c]
  | _, _, _ => false
def isCompE : Mini.E → Bool
  | .comp .. => true
  | .comp2 .. => true
  | _ => false
mutual
def cks (G : Stat) (N : List Str) (sc : Scope) (lam : Bool) : S → Stmt → Bool
  | .set i e, s => match s with
    | .Assign [.Name x p] v _ => locB N sc (fun _ => true) i x && swOk v && ck G N e false sc (fun _ => true) lam v && (!swB sc v x p || isCompE e)
    | _ => false
  | .setT ts e, s => match s with
    | .Assign [.Tuple tes _ _] v _ => nsB N sc (fun _ => true) ts tes && !isTup v && ck G N e false sc (fun _ => true) lam v
    | _ => false
  | .setP ts es, s => match s with
    | .Assign [.Tuple tes _ _] (.Tuple vs _ _) _ => nsB N sc (fun _ => true) ts tes && !stars vs && decide (ts.length ≤ 100) && ckL G N es sc (fun _ => true) lam vs && (noneB sc tes vs || parB sc ts tes vs)
    | _ => false
  | .seti i k e, s => match s with
    | .Assign [.Subscript (.Name x _) b _] v _ => slotB N sc i x && ck G N k false sc (fun _ => true) lam b && ck G N e false sc (fun _ => true) lam v
    | _ => false
  | .expr e, s => match s with
    | .Expr v _ => !isCompr v && ck G N e false sc (fun _ => true) lam v
    | _ => false
  | .ret e, s => match s with
    | .Return (some v) _ => (match e with
      | .slot i => (match v with
        | .Name x _ => slotB N sc i x
        | _ => false)
      | e => ck G N e false sc (fun _ => true) lam v)
    | _ => false
  | .retN, s => match s with
    | .Return none _ => true
    | _ => false
  | .ifs c a b, s => match s with
    | .If t x y _ => tst t && ck G N c false sc (fun _ => true) lam t && ckB G N sc lam a x && ckB G N sc lam b y
    | _ => false
  | .forS tg it body, s => match s with
    | .For t i b [] _ => noSet i && ck G N it true sc (fun _ => true) lam i && tgB N sc (fun _ => true) tg t && ckB G N sc lam body b
    | _ => false
  | .whl c body, s => match s with
    | .While t b [] _ => tst t && ck G N c false sc (fun _ => true) lam t && ckB G N sc lam body b
    | _ => false
  | .raise x as, s => match s with
    | .Raise (some (.Call (.Name y _) [a] [] _)) none _ => decide (y = x) && decide (x ∈ G.excs) && glB sc x && !star a && (match as with
      | [A] => ck G N A false sc (fun _ => true) lam a
      | _ => false)
    | _ => false
  | .brk, s => match s with
    | .Break _ => true
    | _ => false
  | .cont, s => match s with
    | .Continue _ => true
    | _ => false
  | .pass, s => match s with
    | .Pass _ => true
    | _ => false
  | .never, _ => true
  | .swap .., _ => false
  | .aug .., _ => false
def ckB (G : Stat) (N : List Str) (sc : Scope) (lam : Bool) : List S → List Stmt → Bool
  | [], ss => match ss with | [] => true | _ => false
  | a :: as, ss => match ss with
    | s :: ss => cks G N sc lam a s && ckB G N sc lam as ss
    | [] => false
end
section
variable {G : Stat} {F : Ifc} {T : List (Addr × Str)} {lv : Nat} {N : List Str} {X : Cx} {XE : XK} {sc : Scope} {lam : Bool}
theorem ns_of (S : Ctx G F T lv X XE N sc (fun _ => true) lam) : ∀ {is : List Nat} {es : List Expr}, nsB N sc (fun _ => true) is es = true → PGs X es (gNs is) ∧ stars es = false ∧ es.length = is.length
  | [], [], _ => ⟨pgs_ns_nil, rfl, rfl⟩
  | [], _ :: _, h => by cases h
  | i :: is, [], h => by cases h
  | i :: is, e :: es, h => by
    cases e <;> first | cases h; done | skip
    rename_i x p
    simp only [nsB, Bool.and_eq_true] at h
    obtain ⟨h1, h2, h3⟩ := loc_of S h.1
    obtain ⟨g1, g2, g3⟩ := ns_of S h.2
    exact ⟨pgs_ns_cons (by rw [S.hN]; exact S.nd) h1 h2 h3 g1 (assign_cons rfl _ _), by unfold stars at g2 ⊢; rw [List.any_cons, g2]; rfl, by rw [List.length_cons, List.length_cons, g3]⟩
/-- a comprehension, part by part -/
theorem comp_parts {own : List Nat} {t : Tg} {ite elt : Mini.E} {ifs : List Mini.E} {st : Str → Bool} {e : Expr} (S : Ctx G F T lv X XE N sc st lam) (h : ck G N (.comp own t ite ifs elt) false sc st lam e = true) :
    ∃ x tg iter fs scope p, e = .ListComp x [⟨tg, iter, fs, 0⟩] scope p ∧ SdI X T (wx XE) tg iter ite F ∧ BlkOk X.N X.env.scope scope (ownN N own) ∧ (∀ j ∈ t.slots, j ∈ own) ∧
      (∀ (s : Shared) (H : Hp) (C : Addr) (cl : List (Str × Addr)) (fp : List Addr), SdG (X.blk s H scope (compEnvC scope cl C X.env) fp) T tg t) ∧ (∀ (s : Shared) (H : Hp) (C : Addr) (cl : List (Str × Addr)) (fp : List Addr), SdTs (X.blk s H scope (compEnvC scope cl C X.env) fp) T W0 fs (vTs ifs (denL F ifs))) ∧
      (∀ (s : Shared) (H : Hp) (C : Addr) (cl : List (Str × Addr)) (fp : List Addr), SdE (X.blk s H scope (compEnvC scope cl C X.env) fp) T W0 x (denE F elt)) ∧ ∀ v, foldedSetIterable iter X.env v = pure v := by
  unfold ck at h
  split at h
  · rename_i x tg iter fs scope p
    simp only [Bool.and_eq_true, decide_eq_true_eq, List.all_eq_true] at h
    obtain ⟨⟨⟨⟨⟨⟨⟨⟨h0, h1⟩, h2⟩, h3⟩, h4⟩, h5⟩, h6⟩, h7⟩, h8⟩ := h
    refine ⟨x, tg, iter, fs, scope, p, rfl, (ck_ok ite true _ S h1).2 rfl tg, by rw [S.hN, S.hsc]; exact blkOk_by h2, h3, fun s H C cl fp => tg_of (S.blk s H scope C cl fp) t tg h4, fun s H C cl fp => ?_, fun s H C cl fp => (ck_ok elt false _ (S.blk s H scope C cl fp) h8).ok.v, fun v => fold_of h0 _ v⟩
    have o1 := ckL_ok ifs _ (S.blk s H scope C cl fp) h7
    match fs, ifs, o1, h5, h6 with
    | [], _, .nil, _, _ => exact sdts_nil
    | [c], [C'], .cons q .nil, _, h6 => exact sdts_one (q.t (h6 c List.mem_cons_self))
    | _ :: _ :: _, _, _, h5, _ => simp at h5
  · cases h
theorem comp2_parts {own own2 : List Nat} {t t2 : Tg} {ite it2 elt : Mini.E} {ifs ifs2 : List Mini.E} {st : Str → Bool} {e : Expr} (S : Ctx G F T lv X XE N sc st lam) (h : ck G N (.comp2 own own2 t ite ifs t2 it2 ifs2 elt) false sc st lam e = true) :
    ∃ x tg iter fs tg2 iter2 fs2 scope p, e = .ListComp x [⟨tg, iter, fs, 0⟩, ⟨tg2, iter2, fs2, 0⟩] scope p ∧ SdI X T (wx XE) tg iter ite F ∧ BlkOk X.N X.env.scope scope (ownN N own) ∧ (∀ j ∈ t.slots, j ∈ own) ∧ (∀ j ∈ t2.slots, j ∈ own2) ∧ (∀ j ∈ own2, j ∈ own) ∧
      (∀ (s : Shared) (H : Hp) (C : Addr) (cl : List (Str × Addr)) (fp : List Addr), SdG (X.blk s H scope (compEnvC scope cl C X.env) fp) T tg t) ∧ (∀ (s : Shared) (H : Hp) (C : Addr) (cl : List (Str × Addr)) (fp : List Addr), SdTs (X.blk s H scope (compEnvC scope cl C X.env) fp) T W0 fs (vTs ifs (denL F ifs))) ∧
      (∀ (s : Shared) (H : Hp) (C : Addr) (cl : List (Str × Addr)) (fp : List Addr), SdI (X.blk s H scope (compEnvC scope cl C X.env) fp) T W0 tg2 iter2 it2 F) ∧
      (∀ (s : Shared) (H : Hp) (C : Addr) (cl : List (Str × Addr)) (fp : List Addr), SdG (X.blk s H scope (compEnvC scope cl C X.env) fp) T tg2 t2) ∧ (∀ (s : Shared) (H : Hp) (C : Addr) (cl : List (Str × Addr)) (fp : List Addr), SdTs (X.blk s H scope (compEnvC scope cl C X.env) fp) T W0 fs2 (vTs ifs2 (denL F ifs2))) ∧
      (∀ (s : Shared) (H : Hp) (C : Addr) (cl : List (Str × Addr)) (fp : List Addr), SdE (X.blk s H scope (compEnvC scope cl C X.env) fp) T W0 x (denE F elt)) ∧ (∀ v, foldedSetIterable iter X.env v = pure v) ∧ ∀ env v, foldedSetIterable iter2 env v = pure v := by
  unfold ck at h
  split at h
  · rename_i x tg iter fs tg2 iter2 fs2 scope p
    simp only [Bool.and_eq_true, decide_eq_true_eq, List.all_eq_true] at h
    obtain ⟨⟨⟨⟨⟨⟨⟨⟨⟨⟨⟨⟨⟨⟨⟨⟨h0, h00⟩, h1⟩, h2⟩, h3⟩, h32⟩, h33⟩, h4⟩, h42⟩, h5⟩, h6⟩, h7⟩, h12⟩, h52⟩, h62⟩, h72⟩, h8⟩ := h
    refine ⟨x, tg, iter, fs, tg2, iter2, fs2, scope, p, rfl, (ck_ok ite true _ S h1).2 rfl tg, by rw [S.hN, S.hsc]; exact blkOk_by h2, h3, h32, h33, fun s H C cl fp => tg_of (S.blk s H scope C cl fp) t tg h4, fun s H C cl fp => ?_, fun s H C cl fp => (ck_ok it2 true _ (S.blk s H scope C cl fp) h12).2 rfl tg2,
      fun s H C cl fp => tg_of (S.blk s H scope C cl fp) t2 tg2 h42, fun s H C cl fp => ?_, fun s H C cl fp => (ck_ok elt false _ (S.blk s H scope C cl fp) h8).ok.v, fun v => fold_of h0 _ v, fun env v => fold_of h00 env v⟩
    · have o1 := ckL_ok ifs _ (S.blk s H scope C cl fp) h7
      match fs, ifs, o1, h5, h6 with
      | [], _, .nil, _, _ => exact sdts_nil
      | [c], [C'], .cons q .nil, _, h6 => exact sdts_one (q.t (h6 c List.mem_cons_self))
      | _ :: _ :: _, _, _, h5, _ => simp at h5
    · have o1 := ckL_ok ifs2 _ (S.blk s H scope C cl fp) h72
      match fs2, ifs2, o1, h52, h62 with
      | [], _, .nil, _, _ => exact sdts_nil
      | [c], [C'], .cons q .nil, _, h6 => exact sdts_one (q.t (h6 c List.mem_cons_self))
      | _ :: _ :: _, _, _, h5, _ => simp at h5
  · cases h
mutual
theorem cks_ok (S : Ctx G F T lv X XE N sc (fun _ => true) lam) (hk : X.env.blockKind = .function) (hp : PassesOwn (model X.prog X.w) X.A X.env X.xe) : ∀ (M : Mini.S) (s : Stmt), cks G N sc lam M s = true → SdS X T (wx XE) s (denS F M)
  | .set i e, s, h => by
    unfold cks at h
    split at h
    · rename_i x p v pos
      simp only [Bool.and_eq_true] at h
      obtain ⟨⟨⟨h1, h2⟩, h3⟩, h4⟩ := h
      obtain ⟨l1, l2, l3⟩ := loc_of S h1
      have nd : X.N.Nodup := by rw [S.hN]; exact S.nd
      cases hw : swB sc v x p with
      | false => exact ss_set nd l1 l2 l3 (ck_ok e false _ S h3).ok.v (by rw [sw_of h2 S.hsc hk, hw])
      | true =>
        rw [hw] at h4
        cases e <;> first | cases h4; done | skip
        · rename_i own t ite ifs elt
          obtain ⟨x', tg, iter, fs, scope, p', rfl, c1, c2, c3, c4, c5, c6, c7⟩ := comp_parts S h3
          have hloc : X.env.scope.names.lookup x = some .local := by
            rw [S.hsc]
            unfold swB at hw
            simp only [Bool.and_eq_true, decide_eq_true_eq] at hw
            exact hw.1.1
          have key := ss_setC (pos := pos) (pos' := p) S.calm nd l1 hloc (by rw [sw_of h2 S.hsc hk, hw]) c1 c2 (by rw [own_map]; exact c3) c4 c5 c6 c7
          rw [own_map] at key
          exact key
        · rename_i own own2 t ite ifs t2 it2 ifs2 elt
          obtain ⟨x', tg, iter, fs, tg2, iter2, fs2, scope, p', rfl, c1, c2, c3, c32, c33, c4, c5, c12, c42, c52, c6, c7, c8⟩ := comp2_parts S h3
          have hloc : X.env.scope.names.lookup x = some .local := by
            rw [S.hsc]
            unfold swB at hw
            simp only [Bool.and_eq_true, decide_eq_true_eq] at hw
            exact hw.1.1
          have key := ss_setC2 (pos := pos) (pos' := p) S.calm nd l1 hloc (by rw [sw_of h2 S.hsc hk, hw]) c1 c2 (by rw [own_map]; exact c3) c32 (by rw [own_map]; exact c33) c4 c5 c12 c42 c52 c6 c7 c8
          rw [own_map] at key
          exact key
    · cases h
  | .setT ts e, s, h => by
    unfold cks at h
    split at h
    · rename_i tes k pt v pos
      simp only [Bool.and_eq_true, Bool.not_eq_true'] at h
      obtain ⟨⟨h1, h2⟩, h3⟩ := h
      obtain ⟨g1, g2, g3⟩ := ns_of S h1
      obtain ⟨t1, t2⟩ := targets tes g2 X.env
      exact ss_setT S.calm (ck_ok e false _ S h3).ok.o g1 (by rw [t1, g3]) t2 sole_tuple (sws_not h2) (assign_cons rfl _ _)
    · cases h
  | .setP ts es, s, h => by
    unfold cks at h
    split at h
    · rename_i tes k pt vs k2 p2 pos
      simp only [Bool.and_eq_true, Bool.not_eq_true', decide_eq_true_eq, Bool.or_eq_true] at h
      obtain ⟨⟨⟨⟨h1, h2⟩, h3⟩, h4⟩, h5⟩ := h
      obtain ⟨g1, g2, g3⟩ := ns_of S h1
      obtain ⟨t1, t2⟩ := targets tes g2 X.env
      have o := ckL_ok es _ S h4
      have rs := o.rs h2
      have nd : X.N.Nodup := by rw [S.hN]; exact S.nd
      rcases h5 with h5 | h5
      · exact ss_setP S.calm rs g1 (by rw [t1, g3]) t2 sole_tuple (sws_none S.hsc h5) (assign_cons rfl _ _) h3
      · unfold parB at h5
        split at h5
        · rename_i i j x px y py a b
          simp only [Bool.and_eq_true, decide_eq_true_eq] at h5
          obtain ⟨⟨⟨⟨⟨q1, q2⟩, q3⟩, q4⟩, q5⟩, q6⟩ := h5
          simp only [nsB, Bool.and_eq_true] at h1
          obtain ⟨l1, _, _⟩ := loc_of S h1.1
          obtain ⟨l2, _, _⟩ := loc_of S h1.2.1
          match es, o with
          | [A, B], .cons _ (.cons _ .nil) => exact ss_set2 S.calm nd l1 l2 q1 (by rw [S.hsc]; exact q3) (by rw [S.hsc]; exact q4) rs (sws_two S.hsc hk q3 q4 q5 q2 q6) sole_tuple
        · rename_i i j l x px y py z pz a b c
          simp only [Bool.and_eq_true, decide_eq_true_eq] at h5
          obtain ⟨⟨⟨⟨⟨⟨⟨⟨⟨⟨⟨q1, q2⟩, q3⟩, q4⟩, q5⟩, q6⟩, q7⟩, q8⟩, q9⟩, q10⟩, q11⟩, q12⟩ := h5
          simp only [nsB, Bool.and_eq_true] at h1
          obtain ⟨l1, _, _⟩ := loc_of S h1.1
          obtain ⟨l2, _, _⟩ := loc_of S h1.2.1
          obtain ⟨l3, _, _⟩ := loc_of S h1.2.2.1
          match es, o with
          | [A, B, C], .cons _ (.cons _ (.cons _ .nil)) => exact ss_set3 S.calm nd l1 l2 l3 q1 q2 q3 (by rw [S.hsc]; exact q7) (by rw [S.hsc]; exact q8) (by rw [S.hsc]; exact q9) rs (sws_three S.hsc hk q7 q8 q9 q10 q11 q4 q5 q6 q12) sole_tuple
        · cases h5
    · cases h
  | .seti i k e, s, h => by
    unfold cks at h
    split at h
    · simp only [Bool.and_eq_true] at h
      obtain ⟨⟨h1, h2⟩, h3⟩ := h
      obtain ⟨s1, s2, s3, s4⟩ := slot_of S h1
      exact ss_seti (by have := units_of S.room; omega) s1 s2 s3 s4 (ck_ok k false _ S h2).ok.v (ck_ok e false _ S h3).ok.v sw_sub
    · cases h
  | .expr e, s, h => by
    unfold cks at h
    split at h
    · simp only [Bool.and_eq_true, Bool.not_eq_true'] at h
      exact ss_expr (ck_ok e false _ S h.2).ok.v (sw_none h.1)
    · cases h
  | .ret e, s, h => by
    unfold cks at h
    split at h
    · rename_i v p
      cases e <;> first
        | exact ss_ret (ck_ok _ false _ S h).ok.v (fun i z => by cases z)
        | skip
      rename_i i
      dsimp only at h
      split at h
      · obtain ⟨s1, s2, s3, s4⟩ := slot_of S h
        exact ss_retSlot s1 s2 s3 s4
      · cases h
    · cases h
  | .retN, s, h => by
    unfold cks at h
    split at h
    · exact ss_retN
    · cases h
  | .ifs c a b, s, h => by
    unfold cks at h
    split at h
    · simp only [Bool.and_eq_true] at h
      obtain ⟨⟨⟨h0, h1⟩, h2⟩, h3⟩ := h
      exact ss_if ((ck_ok c false _ S h1).ok.t h0) (ckB_ok S hk hp a _ h2) (ckB_ok S hk hp b _ h3)
    · cases h
  | .forS tg it body, s, h => by
    unfold cks at h
    split at h
    · simp only [Bool.and_eq_true] at h
      obtain ⟨⟨⟨h0, h1⟩, h2⟩, h3⟩ := h
      exact ss_for hp S.calm ((ck_ok it true _ S h1).2 rfl _) (tg_of S tg _ h2) (ckB_ok S hk hp body _ h3) (fun v => fold_of h0 _ v)
    · cases h
  | .whl c body, s, h => by
    unfold cks at h
    split at h
    · simp only [Bool.and_eq_true] at h
      obtain ⟨⟨h0, h1⟩, h2⟩ := h
      exact ss_while hp ((ck_ok c false _ S h1).ok.t h0) (ckB_ok S hk hp body _ h2)
    · cases h
  | .raise x as, s, h => by
    unfold cks at h
    split at h
    · simp only [Bool.and_eq_true, Bool.not_eq_true', decide_eq_true_eq] at h
      obtain ⟨⟨⟨⟨rfl, h1⟩, h2⟩, h3⟩, h4⟩ := h
      split at h4
      · rename_i A
        obtain ⟨hn, C, e1, e2, e3, e4, e5⟩ := S.sta.exc _ h1
        obtain ⟨g1, g2⟩ := gl_of S h2
        exact ss_raise S.calm S.tk e1 e2 e3 (raises_own e4 e5) g1 hn (ck_ok A false _ S h4).ok.v (star_of h3 _ _) g2
      · cases h4
    · cases h
  | .brk, s, h => by
    unfold cks at h
    split at h
    · exact ss_brk
    · cases h
  | .cont, s, h => by
    unfold cks at h
    split at h
    · exact ss_cont
    · cases h
  | .pass, s, h => by
    unfold cks at h
    split at h
    · exact ss_pass
    · cases h
  | .never, s, h => ss_never
  | .swap .., s, h => by unfold cks at h; cases h
  | .aug .., s, h => by unfold cks at h; cases h
theorem ckB_ok (S : Ctx G F T lv X XE N sc (fun _ => true) lam) (hk : X.env.blockKind = .function) (hp : PassesOwn (model X.prog X.w) X.A X.env X.xe) : ∀ (Ms : List Mini.S) (ss : List Stmt), ckB G N sc lam Ms ss = true → SdB X T (wx XE) ss (denB F Ms)
  | [], ss, h => by
    unfold ckB at h
    split at h
    · exact sb_nil
    · cases h
  | M :: Ms, ss, h => by
    unfold ckB at h
    split at h
    · rw [Bool.and_eq_true] at h
      exact sb_cons (cks_ok S hk hp M _ h.1) (ckB_ok S hk hp Ms _ h.2)
    · cases h
end
end
end Mini

/- M8a -/
set_option Elab.async false
set_option linter.all false
set_option maxRecDepth 100000
set_option maxHeartbeats 2000000
/-! MINI 8a: how a call binds, by a check of names. -/
namespace Mini
open PySem PySem.Spec PyProof.Rows L2 LamX
/-- n values and the keywords ks fill the parameters ps, of which the last nd have defaults -/
def bndB (ps : List Str) (nd n : Nat) (ks : List Str) : Bool := decide ps.Nodup && decide ks.Nodup && decide (n ≤ ps.length) && decide (nd ≤ ps.length) && ks.all (fun k => (ps.drop n).contains k) && ((ps.drop n).zipIdx n).all (fun p => ks.contains p.1 || decide (ps.length - nd ≤ p.2))
theorem look_app {β : Type} {m : Str} : ∀ {a b : List (Str × β)}, (a ++ b).lookup m = (a.lookup m).or (b.lookup m)
  | [], b => rfl
  | (k, v) :: a, b => by
    rw [List.cons_append, List.lookup_cons, List.lookup_cons]
    cases m == k with
    | true => rfl
    | false => exact look_app
theorem look_zip {β : Type} : ∀ {ps : List Str} {us : List β} {i : Nat} {m : Str}, ps.Nodup → ps[i]? = some m → (ps.zip us).lookup m = us[i]?
  | [], _, _, _, _, h => by simp at h
  | p :: ps, [], i, m, _, h => by simp
  | p :: ps, u :: us, 0, m, _, h => by
    cases h
    simp [List.zip_cons_cons, List.lookup_cons]
  | p :: ps, u :: us, i + 1, m, nd, h => by
    have h' : ps[i]? = some m := by simpa using h
    have hm : m ∈ ps := List.mem_of_getElem? h'
    obtain ⟨h1, h2⟩ := List.nodup_cons.mp nd
    have ne : (m == p) = false := by
      simp only [beq_eq_false_iff_ne, ne_eq]
      intro z; exact h1 (z ▸ hm)
    rw [List.zip_cons_cons, List.lookup_cons, ne]
    simpa using look_zip h2 h'
theorem look_zip_none {β : Type} {m : Str} : ∀ {ps : List Str} {us : List β}, m ∉ ps → (ps.zip us).lookup m = none
  | [], _, _ => rfl
  | p :: ps, [], _ => rfl
  | p :: ps, u :: us, h => by
    have ne : (m == p) = false := by
      simp only [beq_eq_false_iff_ne, ne_eq]
      intro z; exact h (z ▸ List.mem_cons_self)
    rw [List.zip_cons_cons, List.lookup_cons, ne]
    exact look_zip_none fun z => h (List.mem_cons_of_mem _ z)
theorem look_zip_isSome {β : Type} {m : Str} : ∀ {ps : List Str} {us : List β}, us.length = ps.length → m ∈ ps → ∃ w, (ps.zip us).lookup m = some w
  | p :: ps, [], l, _ => by simp at l
  | p :: ps, u :: us, l, h => by
    rw [List.zip_cons_cons, List.lookup_cons]
    cases e : m == p with
    | true => exact ⟨u, rfl⟩
    | false =>
      rcases List.mem_cons.mp h with z | z
      · rw [z] at e; simp at e
      · exact look_zip_isSome (by simpa using l) z
theorem forIn_run {α β : Type} {f : α → β → Sem (ForInStep β)} {g : β → α → β} {Inv : List α → β → Prop} (hs : ∀ a l b, Inv (a :: l) b → f a b = pure (.yield (g b a)) ∧ Inv l (g b a)) : ∀ (l : List α) (b : β), Inv l b → forIn l b f = pure (l.foldl g b)
  | [], b, _ => rfl
  | a :: l, b, h => by
    obtain ⟨h1, h2⟩ := hs a l b h
    rw [List.forIn_cons, h1, pure_bind]
    exact forIn_run hs l _ h2
/-- the defaults' loop -/
def addD (s : List (Str × Value)) (p : Str × Value) : List (Str × Value) := if (s.lookup p.1).isNone then s ++ [p] else s
theorem look_addD {m : Str} : ∀ {l : List (Str × Value)} {s : List (Str × Value)}, (l.foldl addD s).lookup m = (s.lookup m).or (l.lookup m)
  | [], s => by simp
  | (k, v) :: l, s => by
    rw [List.foldl_cons, look_addD, List.lookup_cons]
    unfold addD
    dsimp only
    cases h : s.lookup k with
    | none =>
      rw [if_pos (show (none : Option Value).isNone = true from rfl), look_app, List.lookup_cons]
      cases e : m == k with
      | true => cases s.lookup m <;> rfl
      | false => cases s.lookup m <;> rfl
    | some w =>
      rw [if_neg (by simp)]
      cases e : m == k with
      | true => rw [beq_iff_eq.mp e, h]; rfl
      | false => rfl
theorem fm_zip {L : Str → Option Value} : ∀ {ps : List Str} {bs : List Value}, Paired (fun m b => L m = some b) ps bs → (ps.filterMap fun m => (L m).map (m, ·)) = ps.zip bs
  | _, _, .nil => rfl
  | _, _, .cons h r => by
    rw [List.filterMap_cons, h]
    show _ :: _ = _
    rw [fm_zip r, List.zip_cons_cons]
theorem foldr_some {L : Str → Option Value} {st : Str × Nat → Option Value} : ∀ {l : List (Str × Nat)}, (∀ p ∈ l, ∃ b, st p = some b ∧ L p.1 = some b) →
    ∃ bs, l.foldr (fun p acc => acc.bind fun acc => (st p).map (· :: acc)) (some []) = some bs ∧ Paired (fun m b => L m = some b) (l.map (·.1)) bs
  | [], _ => ⟨[], rfl, .nil⟩
  | p :: l, h => by
    obtain ⟨bs, h1, h2⟩ := foldr_some fun q hq => h q (List.mem_cons_of_mem _ hq)
    obtain ⟨b, h3, h4⟩ := h p (List.mem_cons_self)
    exact ⟨b :: bs, by rw [List.foldr_cons, h1, h3]; rfl, .cons h4 h2⟩
theorem paired_i {α β : Type} {R : α → β → Prop} : ∀ {xs : List α} {ys : List β}, xs.length = ys.length → (∀ (i : Nat) x y, xs[i]? = some x → ys[i]? = some y → R x y) → Paired R xs ys
  | [], [], _, _ => .nil
  | [], _ :: _, l, _ => by simp at l
  | _ :: _, [], l, _ => by simp at l
  | x :: xs, y :: ys, l, h => .cons (h 0 x y rfl rfl) (paired_i (by simpa using l) fun i a b h1 h2 => h (i + 1) a b (by simpa using h1) (by simpa using h2))
theorem nodup_at {ps : List Str} (nd : ps.Nodup) {i j : Nat} {m : Str} (h1 : ps[i]? = some m) (h2 : ps[j]? = some m) : i = j := by
  obtain ⟨l1, e1⟩ := List.getElem?_eq_some_iff.mp h1
  obtain ⟨l2, e2⟩ := List.getElem?_eq_some_iff.mp h2
  rcases Nat.lt_trichotomy i j with q | q | q
  · exact absurd (e1.trans e2.symm) (List.pairwise_iff_getElem.mp nd i j l1 l2 q)
  · exact q
  · exact absurd (e2.trans e1.symm) (List.pairwise_iff_getElem.mp nd j i l2 l1 q)
theorem loop1 : ∀ (l b : List (Str × Value)), l.foldl (fun (b : List (Str × Value) × List (Str × Value)) a => (b.1 ++ [a], b.2)) (b, []) = (b ++ l, [])
  | [], b => by simp
  | a :: l, b => by rw [List.foldl_cons, loop1 l]; simp
/-- the binder itself -/
theorem binds_plain {fd : FuncData} {ps ks : List Str} {us ws its : List Value} (h1 : fd.params.posonlyargs = []) (h2 : fd.params.kwonlyargs = []) (h3 : fd.params.vararg = none) (h4 : fd.params.kwarg = none)
    (hp : fd.params.args.map (·.arg) = ps) (lu : us.length ≤ ps.length) (lw : ws.length = ks.length) (li : its.length ≤ ps.length) (ndp : ps.Nodup) (ndk : ks.Nodup) (hk : ∀ k ∈ ks, k ∈ ps.drop us.length)
    (hm : ∀ (i : Nat) m, ps[i]? = some m → us.length ≤ i → m ∈ ks ∨ ps.length - its.length ≤ i) :
    ∃ bound, arrange ps its us ks ws = some bound ∧ ∀ (M : Model) (h : Heap) (o : Option (Array Value)), PySem.W.Looks M h (seqItems? fd.defaults) o → (o.getD #[]).toList = its → PySem.W.Looks M h (bindArgs fd ⟨us, ks.zip ws⟩) (ps.zip bound) := by
  have at_drop : ∀ k ∈ ps.drop us.length, ∃ i, us.length ≤ i ∧ ps[i]? = some k := fun k a => by
    obtain ⟨i, hi⟩ := List.mem_iff_getElem?.mp a
    rw [List.getElem?_drop] at hi
    exact ⟨_, Nat.le_add_right _ _, hi⟩
  have none_drop : ∀ k ∈ ps.drop us.length, (ps.zip us).lookup k = none := fun k a => by
    obtain ⟨i, l, e⟩ := at_drop k a
    rw [look_zip ndp e]
    exact List.getElem?_eq_none l
  have hall : ks.all (fun k => (ps.drop us.length).contains k) = true := List.all_eq_true.mpr fun k hk' => List.contains_iff_mem.mpr (hk k hk')
  let dn := ps.length - its.length
  let L : Str → Option Value := fun m => (((ps.zip us) ++ (ks.zip ws)).lookup m).or (((ps.drop dn).zip its).lookup m)
  -- names given by position
  have L1 : ∀ (i : Nat) m u, ps[i]? = some m → us[i]? = some u → L m = some u := fun i m u e1 e2 => by
    show (((ps.zip us) ++ (ks.zip ws)).lookup m).or _ = _
    rw [look_app, look_zip ndp e1, e2]
    rfl
  have L2' : ∀ (i : Nat) m, ps[i]? = some m → us.length ≤ i → L m = ((ks.zip ws).lookup m).or (((ps.drop dn).zip its).lookup m) := fun i m e1 l => by
    show (((ps.zip us) ++ (ks.zip ws)).lookup m).or _ = _
    rw [look_app, look_zip ndp e1, List.getElem?_eq_none l]
    rfl
  have ndd : (ps.drop dn).Nodup := List.Sublist.nodup (List.drop_sublist _ _) ndp
  let st : Str × Nat → Option Value := fun p => match (ks.zip ws).lookup p.1 with
    | some w => some w
    | none => if dn ≤ p.2 then its[p.2 - dn]? else none
  have key : ∀ p ∈ (ps.drop us.length).zipIdx us.length, ∃ b, st p = some b ∧ L p.1 = some b := fun p hp => by
    obtain ⟨m, i⟩ := p
    obtain ⟨hl, hi, he⟩ := List.mem_zipIdx hp
    have e1 : ps[i]? = some m := by
      rw [he, List.getElem_drop]
      rw [List.getElem?_eq_some_iff]
      have : us.length + (i - us.length) = i := by omega
      refine ⟨by rw [List.length_drop] at hi; omega, ?_⟩
      simp only [this]
    rw [L2' i m e1 hl]
    show ∃ b, (match (ks.zip ws).lookup m with | some w => some w | none => if dn ≤ i then its[i - dn]? else none) = some b ∧ _
    cases q : (ks.zip ws).lookup m with
    | some w => exact ⟨w, rfl, rfl⟩
    | none =>
      dsimp only
      have hdn : dn ≤ i := by
        rcases hm i m e1 hl with z | z
        · obtain ⟨w, e⟩ := look_zip_isSome (us := ws) lw z
          rw [q] at e; cases e
        · exact z
      rw [if_pos hdn]
      have e2 : (ps.drop dn)[i - dn]? = some m := by rw [List.getElem?_drop, show dn + (i - dn) = i by omega]; exact e1
      rw [look_zip ndd e2]
      have hi' : i < ps.length := (List.getElem?_eq_some_iff.mp e1).1
      have : i - dn < its.length := by omega
      exact ⟨its[i - dn], List.getElem?_eq_getElem this, by rw [List.getElem?_eq_getElem this]; rfl⟩
  obtain ⟨bs, b1, b2⟩ := foldr_some (L := L) (st := st) key
  refine ⟨us ++ bs, ?_, ?_⟩
  · unfold arrange
    dsimp only
    rw [if_pos ⟨lu, hall⟩]
    refine Option.map_eq_some_iff.mpr ⟨bs, ?_, rfl⟩
    refine Eq.trans ?_ b1
    congr 1
    funext p acc
    congr 1
    funext a
    cases q : (ks.zip ws).lookup p.1 with
    | some w =>
      have e : st p = some w := by simp only [st, q]
      rw [e]
      rfl
    | none =>
      have e : st p = if dn ≤ p.2 then its[p.2 - dn]? else none := by simp only [st, q]
      rw [e]
      show (if dn ≤ p.2 then (its[p.2 - dn]?).map (· :: a) else none) = _
      split <;> rfl
  · intro M h o hd ho
    have hfm : (ps.filterMap fun m => (L m).map (m, ·)) = ps.zip (us ++ bs) := by
      refine fm_zip ?_
      have p1 : Paired (fun m b => L m = some b) (ps.take us.length) us := paired_i (by rw [List.length_take]; omega) fun i m u e1 e2 => by
        rw [List.getElem?_take] at e1
        split at e1
        · exact L1 i m u e1 e2
        · cases e1
      have p2 : Paired (fun m b => L m = some b) (ps.drop us.length) bs := by
        rw [List.zipIdx_map_fst] at b2
        exact b2
      have := paired_app p1 p2
      rwa [List.take_append_drop] at this
    unfold bindArgs
    dsimp only
    rw [h1, h2, h3, h4, hp]
    dsimp only [List.map_nil, List.nil_append, List.append_nil]
    refine PySem.W.Looks.andThen (a := (ps.zip us ++ ks.zip ws, [])) ?_ ?_
    · refine PySem.W.Looks.of_pure ?_
      refine (forIn_run (g := fun b a => (b.1 ++ [a], b.2)) (Inv := fun l b => (∀ p ∈ l, p.1 ∈ ps ∧ b.1.lookup p.1 = none) ∧ (l.map (·.1)).Nodup) ?_ (ks.zip ws) _ ?_).trans ?_
      · intro a l b ⟨q1, q2⟩
        obtain ⟨k, v⟩ := a
        obtain ⟨q3, q4⟩ := q1 _ (List.mem_cons_self)
        dsimp only at q3 q4 ⊢
        rw [if_pos (by rw [Bool.or_eq_true]; exact .inl (List.contains_iff_mem.mpr q3)), q4]
        refine ⟨rfl, fun p hp' => ⟨(q1 p (List.mem_cons_of_mem _ hp')).1, ?_⟩, (List.nodup_cons.mp q2).2⟩
        rw [look_app, (q1 p (List.mem_cons_of_mem _ hp')).2, List.lookup_cons]
        have ne : (p.1 == k) = false := by
          simp only [beq_eq_false_iff_ne, ne_eq]
          intro z
          exact (List.nodup_cons.mp q2).1 (List.mem_map.mpr ⟨p, hp', z⟩)
        rw [ne]
        rfl
      · refine ⟨fun p hp' => ?_, ?_⟩
        · have : p.1 ∈ ks := (List.of_mem_zip hp').1
          exact ⟨List.mem_of_mem_drop (hk _ this), none_drop _ (hk _ this)⟩
        · rw [List.map_fst_zip (by omega)]
          exact ndk
      · exact congrArg pure (loop1 (ks.zip ws) (ps.zip us))
    · dsimp only
      refine PySem.W.Looks.andThen hd ?_
      rw [ho]
      simp only [List.map_nil, List.nil_append, List.append_nil]
      rw [ Nat.sub_eq_zero_of_le li, List.drop_zero, if_neg (by simp; omega)]
      have hmiss : (List.filter (fun n => (List.lookup n (ps.zip us ++ ks.zip ws)).isNone) (List.take (ps.length - its.length) ps)) = [] := by
        rw [List.filter_eq_nil_iff]
        intro m hm1 z
        obtain ⟨i, hi⟩ := List.mem_iff_getElem?.mp hm1
        rw [List.getElem?_take] at hi
        split at hi
        · rename_i hlt
          rw [look_app, look_zip ndp hi] at z
          by_cases hu : us.length ≤ i
          · rcases hm i m hi hu with q | q
            · obtain ⟨w, e⟩ := look_zip_isSome (us := ws) lw q
              rw [e] at z
              cases q2 : us[i]? <;> rw [q2] at z <;> cases z
            · omega
          · rw [List.getElem?_eq_getElem (by omega)] at z
            cases z
        · cases hi
      show PySem.W.Looks M h (if (!(List.filter (fun n => (List.lookup n (ps.zip us ++ ks.zip ws)).isNone) (List.take (ps.length - its.length) ps)).isEmpty) = true then _ else _) _
      rw [hmiss, if_neg (by simp)]
      refine PySem.W.Looks.andThen (a := ((ps.drop dn).zip its).foldl addD (ps.zip us ++ ks.zip ws)) (.of_pure ?_) ?_
      · refine forIn_run (g := addD) (Inv := fun _ _ => True) (fun a l b _ => ⟨?_, trivial⟩) _ _ trivial
        obtain ⟨k, v⟩ := a
        unfold addD
        dsimp only
        split <;> rfl
      · refine .of_pure ?_
        rw [List.forIn_nil, pure_bind]
        show pure (ps.filterMap fun n => (List.lookup n (((ps.drop dn).zip its).foldl addD (ps.zip us ++ ks.zip ws))).map (n, ·)) = _
        rw [← hfm]
        congr 2
        funext m
        rw [look_addD]
def plainPs (p : Arguments) : Bool := p.posonlyargs.isEmpty && p.kwonlyargs.isEmpty && p.vararg.isNone && p.kwarg.isNone
theorem bnd_of {K : PySem.W.Frag} {x qual : Str} {params : Arguments} {body : List Stmt} {scope : Scope} {dvs : List V} {f : Addr} {fd : FuncData} {ps ks : List Str} {n : Nat} (FD : FunD K x qual params body scope dvs [] f fd) (hpl : plainPs params = true)
    (hp : params.args.map (·.arg) = ps) (hb : bndB ps dvs.length n ks = true) : Bnd K fd ps dvs n ks := by
  obtain ⟨oc, od, dV, kV, doc, pm, an, cdv, ct, osl, rfl, lk, hcd, hD, _⟩ := FD.ex
  have key : ∃ its : List Value, Vals dvs its ∧ ∀ (M : Model) (h : Heap), K.In h → ∃ o : Option (Array Value), PySem.W.Looks M h (seqItems? dV) o ∧ (o.getD #[]).toList = its := by
    rcases hD with ⟨e, rfl⟩ | ⟨_, T, o, its, m, rfl, lT, oT, rT⟩
    · rw [e]
      exact ⟨[], .nil, fun M h X => ⟨none, .of_pure rfl, rfl⟩⟩
    · refine ⟨its, rT, fun M h X => ⟨some its.toArray, ?_, by simp⟩⟩
      have := looks_items (k := fun z => pure z) (r := some its.toArray) (M := M) X lT oT (.of_pure rfl)
      rwa [bind_pure] at this
  obtain ⟨its, rv, hl⟩ := key
  unfold plainPs at hpl
  simp only [Bool.and_eq_true] at hpl
  obtain ⟨⟨⟨p1, p2⟩, p3⟩, p4⟩ := hpl
  unfold bndB at hb
  simp only [Bool.and_eq_true, decide_eq_true_eq, List.all_eq_true, Bool.or_eq_true] at hb
  obtain ⟨⟨⟨⟨⟨b1, b2⟩, b3⟩, b4⟩, b5⟩, b6⟩ := hb
  refine ⟨its, rv, fun s us ws X l1 l2 => ?_⟩
  have li : its.length = dvs.length := rv.length.symm
  obtain ⟨bound, e1, e2⟩ := binds_plain (fd := PySem.W.fnOf x qual params body scope dV kV doc pm an cdv ct) (ps := ps) (ks := ks) (us := us) (ws := ws) (its := its) (List.isEmpty_iff.mp p1) (List.isEmpty_iff.mp p2) (Option.isNone_iff_eq_none.mp p3) (Option.isNone_iff_eq_none.mp p4) hp (by omega) l2 (by omega) b1 b2
    (fun k hk => by rw [l1]; exact List.contains_iff_mem.mp (b5 k hk)) (fun i m e hi => by
      have hm : (m, i) ∈ (ps.drop n).zipIdx n := by
        rw [List.mk_mem_zipIdx_iff_le_and_getElem?_sub, List.getElem?_drop]
        exact ⟨by omega, by rw [show n + (i - n) = i by omega]; exact e⟩
      rcases b6 _ hm with q | q
      · exact .inl (List.contains_iff_mem.mp q)
      · exact .inr (by dsimp only at q; omega))
  refine ⟨bound, e1, BindsTo.of_looks fun M => ?_⟩
  obtain ⟨o, q1, q2⟩ := hl M s.heap X
  exact e2 M s.heap o q1 q2
end Mini

/- M8 -/
set_option Elab.async false
set_option linter.all false
set_option maxRecDepth 100000
set_option maxHeartbeats 2000000
/-! MINI 8: a program: every def keeps what its mini form computes. -/
namespace Mini
open PySem PySem.Spec PyProof.Rows L2 LamX
theorem blockKind_of {env : PySem.Env} (h : env.scope.kind = .function) : env.blockKind = .function := by
  unfold PySem.Env.blockKind
  rw [h]
  rfl
/-- what stands fast of a def, whatever the depth -/
structure FnH (G : Stat) (K : PySem.W.Frag) (mg : Str → Option Value) (base : Heap) (T : List (Addr × Str)) (fn : Fn) (fa : Addr) (fd : FuncData) (dvs : List V) : Prop where
  hm : mg fn.name = some (.ref fa)
  hk : PySem.W.keepIn K (.ref fa) = true
  dv : ∀ S, RpL K mg S dvs fn.dfl
  bnd : ∀ n ks, (fn.name, n, ks) ∈ G.calls → Bnd K fd fn.pars dvs n ks
  hN : fn.pars.length ≤ fn.N.length
  ino : fn.ino = G.inoOf fn.name
  ex : ∃ (params : Arguments) (body : List Stmt) (scope : Scope) (lam : Bool), FunD K fn.name fn.name params body scope dvs [] fa fd ∧ FnScope fn.N fn.pars scope ∧ ckB G fn.N scope lam fn.body body = true ∧
    (lam = true → ∃ c Pt, TabB base mg c Pt ∧ fd.code = .ref c ∧ (Pt, fn.name ++ ".<locals>." ++ "<lambda>") ∈ T ∧ ∀ p ∈ T, p.1 = Pt → p.2 = fn.name ++ ".<locals>." ++ "<lambda>")
/-- what stands fast of the program -/
structure PrH (pr : Prog) (G : Stat) (P : Program) (w : World) (K : PySem.W.Frag) (mg : Str → Option Value) (base : Heap) (T : List (Addr × Str)) : Prop where
  nd : (pr.fns.map (·.name)).Nodup
  fns : ∀ fn ∈ pr.fns, ∃ fa fd dvs, FnH G K mg base T fn fa fd dvs
  gfn : ∀ f ∈ G.fns, ∃ fn ∈ pr.fns, fn.name = f
  gl : ∀ x d, pr.globs.lookup x = some d → ∃ v u, mg x = some u ∧ RelV v u ∧ ∀ S, Rp K mg S v d
  bt : ∀ x ∈ btNames, mg x = none
  cls : ∀ x ∈ G.clss, ∃ C, IsF K mg (pr.ifc fun _ _ => .bad) x C
  exc : ∀ x ∈ G.excs, x ≠ "TooMany" ∧ ∃ C, PySem.W.excIn K C [.type "ValueError", .type "Exception", .type "BaseException", .type "object"] "ValueError.__new__" = true ∧ mg x = some (.ref C) ∧ PySem.W.keepIn K (.ref C) = true ∧
    PySem.W.subIn K (.ref C) (.type "BaseException") = some true ∧ PySem.W.typeIn K (.ref C) = some (.type "type")
  ct : ∀ x ∈ G.ct, CgF P w K mg base (pr.ifc fun _ _ => .bad) x
theorem find_mem : ∀ {fns : List Fn} {fn : Fn}, (fns.map (·.name)).Nodup → fn ∈ fns → fns.find? (fun g => decide (g.name = fn.name)) = some fn
  | [], _, _, h => by cases h
  | g :: gs, fn, nd, h => by
    rw [List.map_cons, List.nodup_cons] at nd
    rw [List.find?_cons]
    rcases List.mem_cons.mp h with rfl | h
    · simp
    · have : g.name ≠ fn.name := fun z => nd.1 (z ▸ List.mem_map.mpr ⟨fn, h, rfl⟩)
      rw [decide_eq_false this]
      exact find_mem nd.2 h
section
variable {pr : Prog} {G : Stat} {P : Program} {w : World} {K : PySem.W.Frag} {mg : Str → Option Value} {base : Heap} {T : List (Addr × Str)}
theorem PrH.find (h : PrH pr G P w K mg base T) {fn : Fn} (hf : fn ∈ pr.fns) : pr.find fn.name = some fn := find_mem h.nd hf
/-- the level of a def called at depth n -/
def lvl (n : Nat) : Nat := 3 * n + 1
theorem PrH.pars (h : PrH pr G P w K mg base T) {fn : Fn} (hf : fn ∈ pr.fns) (c : Str → List D → CRes) : (pr.ifc c).pars fn.name = fn.pars ∧ (pr.ifc c).ino fn.name = fn.ino ∧ (pr.ifc c).dfl fn.name = fn.dfl := by
  refine ⟨?_, ?_, ?_⟩
  · show (match pr.find fn.name with | some fn => fn.pars | none => []) = _
    rw [h.find hf]
  · show (match pr.find fn.name with | some fn => fn.ino | none => []) = _
    rw [h.find hf]
  · show (match pr.find fn.name with | some fn => fn.dfl | none => []) = _
    rw [h.find hf]
theorem call_len {n : Nat} {f : Str} {fn : Fn} {ds : List D} (hf : pr.find f = some fn) (h : pr.call n f ds ≠ .bad) : ds.length = fn.pars.length := by
  cases n with
  | zero => exact absurd rfl h
  | succ n =>
    unfold Prog.call at h
    rw [hf] at h
    dsimp only at h
    unfold runFn at h
    by_cases e : ds.length = fn.pars.length
    · exact e
    · rw [if_neg e] at h
      exact absurd rfl h
theorem PrH.gls (h : PrH pr G P w K mg base T) (c : Str → List D → CRes) : ∀ x d, (pr.ifc c).glob x = some d → ∃ v u, mg x = some u ∧ RelV v u ∧ ∀ S, Rp K mg S v d := fun x d e => by
  have e : (match pr.globs.lookup x with | some d => some d | none => match pr.find x with | some _ => some (.fn x) | none => none) = some d := e
  cases q : pr.globs.lookup x with
  | some d' =>
    rw [q] at e
    cases e
    exact h.gl x d q
  | none =>
    rw [q] at e
    dsimp only at e
    cases q2 : pr.find x with
    | none => rw [q2] at e; cases e
    | some fn =>
      rw [q2] at e
      cases e
      have hmem : fn ∈ pr.fns := List.mem_of_find?_eq_some q2
      have hnm : fn.name = x := of_decide_eq_true (List.find?_some (p := fun g : Fn => decide (g.name = x)) q2)
      obtain ⟨fa, fd, dvs, H⟩ := h.fns fn hmem
      subst hnm
      exact ⟨.ref fa, .ref fa, H.hm, rfl, fun S => .fn H.hm⟩
theorem prog_ok (h : PrH pr G P w K mg base T) : ∀ (n : Nat) (fn : Fn) (fa : Addr) (fd : FuncData) (dvs : List V), fn ∈ pr.fns → FnH G K mg base T fn fa fd dvs →
    FnOk P w K mg base (L2.CX P w) (lvl n) fa fd fn.pars (spM K mg T fn.pars.length fn.ino (pr.call n fn.name))
  | 0, fn, fa, fd, dvs, hf, H => by
    obtain ⟨params, body, scope, lam, FD, Sc, hck, hlam⟩ := H.ex
    exact FunD_okC (k := 0) FD Sc (fun vs H Q E ⟨_, _, _, ds, _, _, h1, h2, _⟩ => by rw [h1, h2]) fun A outer s H vs Q E hr ⟨_, _, _, _, _, _, _, _, _, hb⟩ => hb.elim
  | n + 1, fn, fa, fd, dvs, hf, H => by
    obtain ⟨params, body, scope, lam, FD, Sc, hck, hlam⟩ := H.ex
    have e : pr.call (n + 1) fn.name = runFn (pr.ifc (pr.call n)) fn := by
      funext ds
      rw [Prog.call, h.find hf]
    rw [e]
    have sta : Sta G P w K mg base T (pr.ifc (pr.call n)) (lvl n) := {
      gl := h.gls _
      bt := h.bt
      cls := fun x hx => by
        obtain ⟨C, q⟩ := h.cls x hx
        exact ⟨C, q.c, q.bt, q.ex⟩
      exc := h.exc
      fn := fun f hf' => by
        obtain ⟨g, hg, rfl⟩ := h.gfn f hf'
        obtain ⟨fa', fd', dvs', H'⟩ := h.fns g hg
        obtain ⟨p1, p2, p3⟩ := h.pars hg (pr.call n)
        refine ⟨by rw [p2]; exact H'.ino, fa', fd', dvs', ⟨H'.hm, H'.hk, ?_, fun S => by rw [p3]; exact H'.dv S, fun ds hb => by rw [p1]; exact call_len (h.find hg) hb⟩, fun m ks hc => by rw [p1]; exact H'.bnd m ks hc⟩
        rw [p1, p2]
        exact prog_ok h n g fa' fd' dvs' hg H'
      ct := fun x hx => by
        obtain ⟨g, CS, a, pg, bg, sg, dV, kV, doc, pm, cdv, ct, oc, an, od, osl, Ng, c1, c2⟩ := (h.ct x hx).ex
        exact ⟨g, CS, a, pg, bg, sg, dV, kV, doc, pm, cdv, ct, oc, an, od, osl, Ng, ⟨c1.of⟩, c2⟩ }
    refine fn_ok (k := lvl n + 2) FD Sc H.hN fun A outer s H0 E hr => ?_
    refine ckB_ok (G := G) (F := pr.ifc (pr.call n)) (lv := lvl n) (N := fn.N) (sc := scope) (lam := lam) ?_ (blockKind_of Sc.kind) (passes_of rfl) fn.body body hck
    exact {
      hN := rfl
      nd := Sc.nd
      hsc := rfl
      calm := rfl
      hst := fun _ _ => rfl
      tk := takes_of rfl rfl rfl rfl
      room := hr.mono (by omega)
      lamR := fun hl => ⟨hr, hlam hl⟩
      sta := sta }
end
end Mini

/- M9 -/
set_option Elab.async false
set_option linter.all false
set_option maxRecDepth 100000
set_option maxHeartbeats 2000000
/-! MINI 9: from what the head tells to the law's promise. -/
namespace Mini
open PySem PySem.Spec PyProof.Rows L2 LamX
/-- a law: its mini program, what the checker knows, the defs as the text has them, exception classes, defs with lambdas; the def that keeps what a lambda raises -/
structure LawD where
  pr : Prog
  G : Stat
  ds : List He.DefD
  ct : List He.DefD
  exs : List Str
  lams : List Str
/-- the i-th statement of the text, a def -/
def mkD (p : Program) (i : Nat) (dfl : List He.Dv) : He.DefD := match p.main.body[i]? with
  | some (.FunctionDef n a b _ _ _ sc _ _ _) => ⟨(n, none), n, n, a, b, sc, dfl, []⟩
  | _ => ⟨("", none), "", "", ⟨[], [], none, [], [], none, []⟩, [], ⟨.function, [], false, false, []⟩, [], []⟩
def tyN : List String := ["NoneType", "bool", "int", "str", "tuple", "list", "dict"]
def LawD.fa (L : LawD) : List He.Fa := L.pr.fns.map (fun fn => .glo fn.name) ++ btNames.map .free ++ L.pr.globs.map (fun p => match p.2 with | .int i => .int p.1 i | .str z => .str p.1 z | _ => .glo p.1) ++ L.exs.map .glo ++ L.G.excs.map .exc ++ L.ct.map (fun d => .glo d.name) ++ [.glo "StepError"]
def excCB (K : PySem.W.Frag) (D : Addr) : Bool := decide (PySem.W.findIn K (.ref D) "__getattribute__" = some (some (.builtin "BaseException.__getattribute__"))) && decide (PySem.W.findIn K (.ref D) "__getattr__" = some none) && decide (PySem.W.subIn K (.ref D) (.type "BaseException") = some true) &&
  PySem.W.hasDictIn K D && decide (PySem.W.findIn K (.ref D) "__class__" = some (some (.builtin "object.__class__"))) && decide (PySem.W.specialIn K (.builtin "object.__class__") "__get__" = some (some (.builtin "getset_descriptor.__get__"))) && decide (PySem.W.takesIn K (.builtin "object.__class__") = some true) &&
  decide (PySem.W.mroIn K D (.type "object") = some true)
theorem excC_of {K : PySem.W.Frag} {D : Addr} (h : excCB K D = true) : ExcC K D := by
  unfold excCB at h
  simp only [Bool.and_eq_true, decide_eq_true_eq] at h
  obtain ⟨⟨⟨⟨⟨⟨⟨h1, h2⟩, h3⟩, h4⟩, h5⟩, h6⟩, h7⟩, h8⟩ := h
  exact ⟨h1, h2, h3, h4, h5, h6, h7, h8⟩
def LawD.tf (L : LawD) : List He.Defn := L.lams.map fun x => (x, none)
def LawD.exB (L : LawD) (K : PySem.W.Frag) : Bool :=
  (L.G.clss.all fun x => (tyN.all fun n => decide (PySem.W.kitOne K (.type n) (.ref (He.ga K x)) = some false)) && L.exs.all fun c => decide (PySem.W.kitOne K (.ref (He.ga K c)) (.ref (He.ga K x)) = some (L.pr.subs.contains (c, x)))) &&
  (L.exs.all fun c => excCB K (He.ga K c) && decide (PySem.W.exmOne K (.ref (He.ga K c)) (.ref (He.ga K "StepError")) = some true)) && decide ((L.tf.map fun p => (He.cT K p).2).Nodup)
def LawD.T (L : LawD) (K : PySem.W.Frag) : List (Addr × Str) := L.lams.map fun x => ((He.cT K (x, none)).2, x ++ ".<locals>." ++ "<lambda>")
def scopeB (N ps : List Str) (sc : Scope) : Bool := decide (sc.kind = .function) && !sc.isCoroutine && !sc.isGenerator && decide N.Nodup && decide (N.take ps.length = ps) && (ps.all fun x => decide (sc.names.lookup x = some .local) || decide (sc.names.lookup x = some .cell)) && sc.names.all fun y => !decide (y.2 = .free)
theorem scope_of {N ps : List Str} {sc : Scope} (h : scopeB N ps sc = true) : FnScope N ps sc := by
  unfold scopeB at h
  simp only [Bool.and_eq_true, decide_eq_true_eq, List.all_eq_true, Bool.or_eq_true, Bool.not_eq_true', decide_eq_false_iff_not] at h
  obtain ⟨⟨⟨⟨⟨⟨h1, h2⟩, h3⟩, h4⟩, h5⟩, h6⟩, h7⟩ := h
  exact ⟨h1, h2, h3, h4, h5, h6, h7⟩
def dfl1 : He.Dv → D → Bool
  | .non, .non => true
  | .bl a, .bl b => decide (a = b)
  | .int a, .int b => decide (a = b)
  | .str a, .str b => decide (a = b)
  | _, _ => false
def dflB : List He.Dv → List D → Bool
  | [], [] => true
  | a :: as, b :: bs => dfl1 a b && dflB as bs
  | _, _ => false
theorem dfl_of {K : PySem.W.Frag} {mg : Str → Option Value} {S : Hp} : ∀ {as : List He.Dv} {bs : List D}, dflB as bs = true → RpL K mg S (as.map (He.Dv.v K)) bs
  | [], [], _ => .nil
  | [], _ :: _, h => by cases h
  | _ :: _, [], h => by cases h
  | a :: as, b :: bs, h => by
    unfold dflB at h
    rw [Bool.and_eq_true] at h
    refine .cons ?_ (dfl_of h.2)
    have h1 := h.1
    unfold dfl1 at h1
    split at h1
    · exact .non
    · rw [of_decide_eq_true h1]; exact .bl _
    · rw [of_decide_eq_true h1]; exact .int _
    · rw [of_decide_eq_true h1]; exact .str _
    · cases h1
theorem dfl_len : ∀ {as : List He.Dv} {bs : List D}, dflB as bs = true → as.length = bs.length
  | [], [], _ => rfl
  | [], _ :: _, h => by cases h
  | _ :: _, [], h => by cases h
  | a :: as, b :: bs, h => by
    unfold dflB at h
    rw [Bool.and_eq_true] at h
    exact congrArg Nat.succ (dfl_len h.2)
/-- one def's text against its mini form -/
def defB (G : Stat) (lams : List Str) (fn : Fn) (d : He.DefD) : Bool := decide (d.at_ = (fn.name, none)) && decide (d.name = fn.name) && decide (d.qual = fn.name) && d.kwd.isEmpty && dflB d.dfl fn.dfl && plainPs d.params && decide (d.params.args.map (·.arg) = fn.pars) && scopeB fn.N fn.pars d.scope &&
  decide (fn.pars.length ≤ fn.N.length) && decide (fn.ino = G.inoOf fn.name) && (G.calls.all fun c => !decide (c.1 = fn.name) || bndB fn.pars fn.dfl.length c.2.1 c.2.2) && ckB G fn.N d.scope (lams.contains fn.name) fn.body d.body
def zipB (G : Stat) (lams : List Str) : List Fn → List He.DefD → Bool
  | [], [] => true
  | fn :: fns, d :: ds => defB G lams fn d && zipB G lams fns ds
  | _, _ => false
theorem zip_at {G : Stat} {lams : List Str} : ∀ {fns : List Fn} {ds : List He.DefD}, zipB G lams fns ds = true → ∀ fn ∈ fns, ∃ d ∈ ds, defB G lams fn d = true
  | [], [], _, fn, h => by cases h
  | [], _ :: _, h, _, _ => by cases h
  | _ :: _, [], h, _, _ => by cases h
  | g :: fns, d :: ds, h, fn, hf => by
    unfold zipB at h
    rw [Bool.and_eq_true] at h
    rcases List.mem_cons.mp hf with rfl | hf
    · exact ⟨d, List.mem_cons_self, h.1⟩
    · obtain ⟨e, he, q⟩ := zip_at h.2 fn hf
      exact ⟨e, List.mem_cons_of_mem _ he, q⟩
def globB (p : Str × D) : Bool := match p.2 with | .int _ => true | .str _ => true | _ => false
/-- the text of the def that keeps what a lambda raises -/
def caughtB (bg : List Stmt) : Bool := match bg with
  | [.Assign [.Name y1 _] (.Constant .none _ _) _, .Try [.Expr (.Call (.Name a _) [] [] _) _] [.ExceptHandler (some (.Name e _)) (some z1) [.Assign [.Name y2 _] (.Name z2 _) _] _] [] [] _, .Return (some (.Name y3 _)) _] =>
    decide (y1 = "caught") && decide (a = "work") && decide (e = "StepError") && decide (z1 = "error") && decide (y2 = "caught") && decide (z2 = "error") && decide (y3 = "caught")
  | _ => false
def ctB (L : LawD) (d : He.DefD) : Bool := decide (d.at_ = (d.name, none)) && decide (d.qual = d.name) && d.kwd.isEmpty && d.dfl.isEmpty && plainPs d.params && decide (d.params.args.map (·.arg) = ([("work" : Str)] : List Str)) && scopeB ["work", "caught", "error"] ["work"] d.scope && caughtB d.body &&
  decide (d.scope.names.lookup ("work" : Str) = some NameKind.local) && decide (d.scope.names.lookup ("caught" : Str) = some NameKind.local) && decide (d.scope.names.lookup ("error" : Str) = some NameKind.local) && decide (d.scope.names.lookup ("StepError" : Str) = some NameKind.globalImplicit)
def LawD.ok (L : LawD) : Bool := zipB L.G L.lams L.pr.fns L.ds && decide (L.pr.fns.map (·.name)).Nodup && (L.G.fns.all fun f => (L.pr.fns.map (·.name)).contains f) && (L.pr.globs.all globB) && (L.G.clss.all fun x => L.exs.contains x) && (L.pr.subs.all fun p => L.exs.contains p.1) &&
  (L.G.excs.all fun x => L.exs.contains x && !decide (x = "TooMany")) && (L.G.ct.all fun x => (L.ct.map (·.name)).contains x) && L.ct.all (ctB L)
theorem codeOf_fun {K : PySem.W.Frag} {x qual : Str} {params : Arguments} {body : List Stmt} {scope : Scope} {dvs : List V} {kws : List (Str × V)} {p : Str × Option Str} {fd : FuncData} (F : FunD K x qual params body scope dvs kws (He.fAd K p) fd) : fd.code = .ref (He.cT K p).1 := by
  obtain ⟨oc, od, dV, kV, doc, pm, an, cdv, ct, osl, rfl, lk, hcd, _, _⟩ := F.ex
  obtain ⟨c, rfl⟩ := He.codeIn_ref hcd
  show Value.ref c = .ref (He.codeOf K p)
  rw [He.codeOf_eq lk rfl]
/-- a def of one parameter, called with one value -/
theorem bnd1 {K : PySem.W.Frag} {x qual a : Str} {params : Arguments} {body : List Stmt} {scope : Scope} {f : Addr} {fd : FuncData} (FD : FunD K x qual params body scope [] [] f fd) (hpl : plainPs params = true)
    (hp : params.args.map (·.arg) = [a]) (s : Shared) (u : Value) : BindsTo s fd ⟨[u], []⟩ [(a, u)] := by
  obtain ⟨oc, od, dV, kV, doc, pm, an, cdv, ct, osl, rfl, lk, hcd, hD, _⟩ := FD.ex
  unfold plainPs at hpl
  simp only [Bool.and_eq_true] at hpl
  obtain ⟨⟨⟨p1, p2⟩, p3⟩, p4⟩ := hpl
  obtain ⟨bound, e1, e2⟩ := binds_plain (fd := PySem.W.fnOf x qual params body scope dV kV doc pm an cdv ct) (ps := [a]) (ks := []) (us := [u]) (ws := []) (its := []) (List.isEmpty_iff.mp p1) (List.isEmpty_iff.mp p2) (Option.isNone_iff_eq_none.mp p3) (Option.isNone_iff_eq_none.mp p4) hp (by simp) rfl (by simp) (by simp) (by simp)
    (fun k hk => by cases hk) (fun i m e hi => by
      have hi : 1 ≤ i := hi
      exact .inr (by simpa using hi))
  have e3 : bound = [u] := by
    have : arrange [a] ([] : List Value) [u] [] [] = some [u] := by simp [arrange]
    rw [this] at e1
    exact (Option.some.inj e1).symm
  subst e3
  refine BindsTo.of_looks fun M => ?_
  rcases hD with ⟨_, rfl⟩ | ⟨z, _⟩
  · exact e2 M s.heap none (.of_pure rfl) rfl
  · exact absurd rfl z
theorem caught_shape {bg : List Stmt} (h : caughtB bg = true) : ∃ (k : Nat) (p1 p2 p3 p4 p5 p6 p7 p8 p9 p10 p11 p12 p13 p14 : Pos), bg = [.Assign [.Name "caught" p1] (.Constant .none k p2) p3, .Try [.Expr (.Call (.Name "work" p4) [] [] p5) p6] [.ExceptHandler (some (.Name "StepError" p7)) (some "error") [.Assign [.Name "caught" p8] (.Name "error" p9) p10] p11] [] [] p12, .Return (some (.Name "caught" p13)) p14] := by
  unfold caughtB at h
  split at h
  · simp only [Bool.and_eq_true, decide_eq_true_eq] at h
    obtain ⟨⟨⟨⟨⟨⟨rfl, rfl⟩, rfl⟩, rfl⟩, rfl⟩, rfl⟩, rfl⟩ := h
    exact ⟨_, _, _, _, _, _, _, _, _, _, _, _, _, _, _, rfl⟩
  · cases h
end Mini

/- M9b -/
set_option Elab.async false
set_option linter.all false
set_option maxRecDepth 100000
set_option maxHeartbeats 2000000
/-! MINI 9b: the head's facts give what the walk asks; the law's promise. -/
namespace Mini
open PySem PySem.Spec PyProof.Rows L2 LamX
section
variable {L : LawD} {P : Program} {w : World} {K : PySem.W.Frag} {mg : Str → Option Value} {h base : Heap}
abbrev Says (L : LawD) (w : World) (h : Heap) (K : PySem.W.Frag) : Prop := He.SaysX L.fa (L.ds ++ L.ct) [] L.tf L.exB w h K
theorem mem_fa {f : He.Fa} (hf : f ∈ L.pr.fns.map (fun fn => He.Fa.glo fn.name) ∨ f ∈ btNames.map He.Fa.free ∨ f ∈ L.pr.globs.map (fun p => match p.2 with | .int i => He.Fa.int p.1 i | .str z => .str p.1 z | _ => .glo p.1) ∨ f ∈ L.exs.map He.Fa.glo ∨ f ∈ L.G.excs.map He.Fa.exc ∨ f ∈ L.ct.map (fun d => He.Fa.glo d.name) ∨ f = He.Fa.glo "StepError") : f ∈ L.fa := by
  unfold LawD.fa
  simp only [List.mem_append, List.mem_singleton]
  rcases hf with h | h | h | h | h | h | h
  · exact .inl (.inl (.inl (.inl (.inl (.inl h)))))
  · exact .inl (.inl (.inl (.inl (.inl (.inr h)))))
  · exact .inl (.inl (.inl (.inl (.inr h))))
  · exact .inl (.inl (.inl (.inr h)))
  · exact .inl (.inl (.inr h))
  · exact .inl (.inr h)
  · exact .inr h
/-- the checks of a law, one by one -/
structure Oks (L : LawD) : Prop where
  zip : zipB L.G L.lams L.pr.fns L.ds = true
  nd : (L.pr.fns.map (·.name)).Nodup
  gfn : ∀ f ∈ L.G.fns, f ∈ L.pr.fns.map (·.name)
  globs : ∀ p ∈ L.pr.globs, globB p = true
  clss : ∀ x ∈ L.G.clss, x ∈ L.exs
  subs : ∀ p ∈ L.pr.subs, p.1 ∈ L.exs
  excs : ∀ x ∈ L.G.excs, x ∈ L.exs ∧ x ≠ "TooMany"
  cts : ∀ x ∈ L.G.ct, x ∈ L.ct.map (·.name)
  ct : ∀ d ∈ L.ct, ctB L d = true
theorem oks_of (ok : L.ok = true) : Oks L := by
  unfold LawD.ok at ok
  simp only [Bool.and_eq_true, decide_eq_true_eq, List.all_eq_true, List.contains_iff_mem, Bool.not_eq_true', decide_eq_false_iff_not] at ok
  obtain ⟨⟨⟨⟨⟨⟨⟨⟨h1, h2⟩, h3⟩, h4⟩, h5⟩, h6⟩, h7⟩, h8⟩, h9⟩ := ok
  exact ⟨h1, h2, h3, h4, h5, h6, h7, h8, h9⟩
theorem exs_of (c : Says L w h K) : ∀ x ∈ L.exs, ExcC K (He.ga K x) ∧ PySem.W.exmOne K (.ref (He.ga K x)) (.ref (He.ga K "StepError")) = some true := fun x hx => by
  have e := c.more
  unfold LawD.exB at e
  simp only [Bool.and_eq_true, decide_eq_true_eq, List.all_eq_true] at e
  obtain ⟨h1, h2⟩ := e.1.2 x hx
  exact ⟨excC_of h1, h2⟩
theorem cls_of (c : Says L w h K) : ∀ x ∈ L.G.clss, (∀ n ∈ tyN, PySem.W.kitOne K (.type n) (.ref (He.ga K x)) = some false) ∧ ∀ y ∈ L.exs, PySem.W.kitOne K (.ref (He.ga K y)) (.ref (He.ga K x)) = some (L.pr.subs.contains (y, x)) := fun x hx => by
  have e := c.more
  unfold LawD.exB at e
  simp only [Bool.and_eq_true, decide_eq_true_eq, List.all_eq_true] at e
  exact e.1.1 x hx
theorem tab_nd (c : Says L w h K) : (L.tf.map fun p => (He.cT K p).2).Nodup := by
  have e := c.more
  unfold LawD.exB at e
  simp only [Bool.and_eq_true, decide_eq_true_eq, List.all_eq_true] at e
  exact e.2
theorem glo_at (X : K.In h) (N : h.Ns mainGlobals mg) (c : Says L w h K) {x : Str} (hx : He.Fa.glo x ∈ L.fa) : mg x = some (.ref (He.ga K x)) := He.glo_ok X N (c.t.d.facts hx)
theorem look_mem {β : Type} {x : Str} {d : β} : ∀ {l : List (Str × β)}, l.lookup x = some d → (x, d) ∈ l
  | [], h => by cases h
  | (k, v) :: l, h => by
    rw [List.lookup_cons] at h
    cases e : x == k with
    | true =>
      rw [e] at h
      cases h
      rw [beq_iff_eq.mp e]
      exact List.mem_cons_self
    | false =>
      rw [e] at h
      exact List.mem_cons_of_mem _ (look_mem h)
theorem nd_inj : ∀ {l : List Str} {g : Str → Addr}, (l.map g).Nodup → ∀ x ∈ l, ∀ y ∈ l, g x = g y → x = y
  | [], _, _, _, hx, _, _, _ => by cases hx
  | a :: l, g, nd, x, hx, y, hy, e => by
    rw [List.map_cons, List.nodup_cons] at nd
    rcases List.mem_cons.mp hx with rfl | hx'
    · rcases List.mem_cons.mp hy with rfl | hy'
      · rfl
      · exact absurd (e ▸ List.mem_map.mpr ⟨y, hy', rfl⟩) nd.1
    · rcases List.mem_cons.mp hy with rfl | hy'
      · exact absurd (e ▸ List.mem_map.mpr ⟨x, hx', rfl⟩) nd.1
      · exact nd_inj nd.2 x hx' y hy' e
theorem prH_of (o : Oks L) (X : K.In h) (N : h.Ns mainGlobals mg) (c : Says L w h K) (XB : K.In base) (TB : ∀ p ∈ L.tf.map (He.cT K), TabB base mg p.1 p.2) : PrH L.pr L.G P w K mg base (L.T K) where
  nd := o.nd
  fns := fun fn hf => by
    obtain ⟨d, hd, e⟩ := zip_at o.zip fn hf
    unfold defB at e
    simp only [Bool.and_eq_true, decide_eq_true_eq, List.isEmpty_iff, List.all_eq_true, Bool.or_eq_true, Bool.not_eq_true', decide_eq_false_iff_not] at e
    obtain ⟨⟨⟨⟨⟨⟨⟨⟨⟨⟨⟨e1, e2⟩, e3⟩, e4⟩, e5⟩, e6⟩, e7⟩, e8⟩, e9⟩, e10⟩, e11⟩, e12⟩ := e
    obtain ⟨fd, FD⟩ := c.t.d.defs (d := d) (List.mem_append.mpr (.inl hd))
    rw [e1, e2, e3] at FD
    have hkw : d.kws K = [] := by
      unfold He.DefD.kws
      rw [e4]
      rfl
    rw [hkw] at FD
    refine ⟨He.ga K fn.name, fd, d.dvs K, ?_⟩
    have lenD : (d.dvs K).length = fn.dfl.length := by
      unfold He.DefD.dvs
      rw [List.length_map]
      exact dfl_len e5
    exact {
      hm := glo_at X N c (mem_fa (.inl (List.mem_map.mpr ⟨fn, hf, rfl⟩)))
      hk := FD.kp
      dv := fun S => dfl_of e5
      bnd := fun n ks hc => bnd_of FD e6 e7 (by
        rw [lenD]
        rcases e11 _ hc with z | z
        · exact absurd rfl z
        · exact z)
      hN := e9
      ino := e10
      ex := ⟨d.params, d.body, d.scope, L.lams.contains fn.name, FD, scope_of e8, e12, fun hl => by
        have hl : fn.name ∈ L.lams := List.contains_iff_mem.mp hl
        have ht : (fn.name, none) ∈ L.tf := List.mem_map.mpr ⟨_, hl, rfl⟩
        refine ⟨(He.cT K (fn.name, none)).1, (He.cT K (fn.name, none)).2, TB _ (List.mem_map.mpr ⟨_, ht, rfl⟩), codeOf_fun (p := (fn.name, none)) FD, List.mem_map.mpr ⟨fn.name, hl, rfl⟩, fun p hp he => ?_⟩
        obtain ⟨x, hx, rfl⟩ := List.mem_map.mp hp
        have nd := tab_nd c
        unfold LawD.tf at nd
        rw [List.map_map] at nd
        have := nd_inj (g := fun x => (He.cT K (x, none)).2) nd x hx fn.name hl he
        rw [this]⟩ }
  gfn := fun f hf => by
    obtain ⟨fn, h1, h2⟩ := List.mem_map.mp (o.gfn f hf)
    exact ⟨fn, h1, h2⟩
  gl := fun x d e => by
    have hm : (x, d) ∈ L.pr.globs := look_mem e
    have hg := o.globs _ hm
    have hf := fun f hf => c.t.d.facts (f := f) (mem_fa (L := L) (.inr (.inr (.inl (List.mem_map.mpr ⟨(x, d), hm, hf⟩)))))
    unfold globB at hg
    cases d <;> first | cases hg; done | skip
    · rename_i i
      obtain ⟨t, ht⟩ := He.int_ok X N (hf (.int x i) rfl)
      exact ⟨.int i, _, ht, ⟨t, rfl⟩, fun S => .int i⟩
    · rename_i z
      obtain ⟨t, ht⟩ := He.str_ok X N (hf (.str x z) rfl)
      exact ⟨.str z, _, ht, ⟨t, rfl⟩, fun S => .str z⟩
  bt := fun x hx => He.free_ok X N (c.t.d.facts (mem_fa (.inr (.inl (List.mem_map.mpr ⟨x, hx, rfl⟩)))))
  cls := fun x hx => by
    have hxe := o.clss x hx
    obtain ⟨h1, h2⟩ := cls_of c x hx
    refine ⟨He.ga K x, glo_at X N c (mem_fa (.inr (.inr (.inr (.inl (List.mem_map.mpr ⟨x, hxe, rfl⟩)))))), h1, fun y D hy hs => ?_⟩
    have hye : y ∈ L.exs := o.subs (y, y) (List.contains_iff_mem.mp hs)
    have := glo_at X N c (x := y) (mem_fa (.inr (.inr (.inr (.inl (List.mem_map.mpr ⟨y, hye, rfl⟩))))))
    rw [hy] at this
    cases this
    exact ⟨(exs_of c y hye).1, h2 y hye⟩
  exc := fun x hx => by
    obtain ⟨h1, h2⟩ := o.excs x hx
    obtain ⟨q1, q2, q3, q4⟩ := He.exc_ok (c.t.d.facts (mem_fa (.inr (.inr (.inr (.inr (.inl (List.mem_map.mpr ⟨x, hx, rfl⟩))))))))
    exact ⟨h2, He.ga K x, q1, glo_at X N c (mem_fa (.inr (.inr (.inr (.inl (List.mem_map.mpr ⟨x, h1, rfl⟩)))))), q2, q3, q4⟩
  ct := fun x hx => by
    obtain ⟨d, hd, rfl⟩ := List.mem_map.mp (o.cts x hx)
    have e := o.ct d hd
    unfold ctB at e
    simp only [Bool.and_eq_true, decide_eq_true_eq, List.isEmpty_iff] at e
    obtain ⟨⟨⟨⟨⟨⟨⟨⟨⟨⟨⟨e1, e2⟩, e3⟩, e4⟩, e5⟩, e6⟩, e7⟩, e8⟩, e9⟩, e10⟩, e11⟩, e12⟩ := e
    obtain ⟨fd, FD⟩ := c.t.d.defs (d := d) (List.mem_append.mpr (.inr hd))
    have hkw : d.kws K = [] := by
      unfold He.DefD.kws
      rw [e3]
      rfl
    have hdv : d.dvs K = [] := by
      unfold He.DefD.dvs
      rw [e4]
      rfl
    rw [e1, e2, hkw, hdv] at FD
    have hb := bnd1 FD e5 e6
    obtain ⟨k, p1, p2, p3, p4, p5, p6, p7, p8, p9, p10, p11, p12, p13, p14, hbody⟩ := caught_shape e8
    have hS : mg "StepError" = some (.ref (He.ga K "StepError")) := glo_at X N c (mem_fa (.inr (.inr (.inr (.inr (.inr (.inr rfl)))))))
    have hX := glo_at X N c (x := d.name) (mem_fa (.inr (.inr (.inr (.inr (.inr (.inl (List.mem_map.mpr ⟨d, hd, rfl⟩))))))))
    have hk := FD.kp
    obtain ⟨oc, od, dV, kV, doc, pm, an, cdv, ct, osl, rfl, lk, hcd, _, _⟩ := FD.ex
    refine ⟨He.ga K d.name, He.ga K "StepError", "work", d.params, d.body, d.scope, dV, kV, doc, pm, cdv, ct, oc, an, od, osl, ["work", "caught", "error"], ⟨fun y D hy hs => ?_⟩, hX, hk, lk, hcd, fun s us _ hl => ?_, scope_of e7, rfl, .inl e9, fun X q z1 z2 z3 z4 z5 => ?_, rfl, rfl⟩
    · have hye : y ∈ L.exs := o.subs (y, "StepError") (List.contains_iff_mem.mp hs)
      have := glo_at X N c (x := y) (mem_fa (.inr (.inr (.inr (.inl (List.mem_map.mpr ⟨y, hye, rfl⟩))))))
      rw [hy] at this
      cases this
      exact (exs_of c y hye).2
    · match us, hl with
      | [u], _ => exact hb s u
    · subst z3 z4
      rw [hbody]
      exact caught_gives (by decide) e12 hS rfl e9 e10 e11 rfl rfl rfl rfl
theorem funD_uniq {x x' qual qual' : Str} {params params' : Arguments} {body body' : List Stmt} {scope scope' : Scope} {dvs dvs' : List V} {kws kws' : List (Str × V)} {f : Addr} {fd fd' : FuncData} (F : FunD K x qual params body scope dvs kws f fd) (F' : FunD K x' qual' params' body' scope' dvs' kws' f fd') : fd = fd' := by
  obtain ⟨_, _, _, _, _, _, _, _, _, _, _, h1, _⟩ := F.ex
  obtain ⟨_, _, _, _, _, _, _, _, _, _, _, h2, _⟩ := F'.ex
  rw [h1] at h2
  injection (Option.some.inj h2) with z1 z2 z3 z4
  injection z3
theorem lawAt {l : PySem.W.OpenLaw} {n : Nat} (o : Oks L) (X : K.In h) (N : h.Ns mainGlobals mg) (c : Says L w h K) {fa : Addr} (hm : mg "law" = some (.ref fa)) {fn : Fn} (hf : fn ∈ L.pr.fns) (e1 : fn.name = "law") (e2 : fn.pars = ([("script" : Str)] : List Str)) (e3 : fn.dfl = []) (e4 : fn.ino = [false])
    (hall : ∀ ns : List Int, ns.length ≤ 63 → (∀ z ∈ ns, Builtin.Int.intBits z ≤ 1048576) → L.pr.call n "law" [.scr ns] = .ok (.val (.bl true)) []) : LawAtS l w K (L2.CX l.prog w) (lvl n) 63 "script" mg fa h := by
  obtain ⟨d, hd, e⟩ := zip_at o.zip fn hf
  unfold defB at e
  simp only [Bool.and_eq_true, decide_eq_true_eq, List.isEmpty_iff, List.all_eq_true, Bool.or_eq_true, Bool.not_eq_true', decide_eq_false_iff_not] at e
  obtain ⟨⟨⟨⟨⟨⟨⟨⟨⟨⟨⟨q1, q2⟩, q3⟩, q4⟩, q5⟩, q6⟩, q7⟩, q8⟩, q9⟩, q10⟩, q11⟩, q12⟩ := e
  obtain ⟨fd, FD⟩ := c.t.d.defs (d := d) (List.mem_append.mpr (.inl hd))
  have hkw : d.kws K = [] := by
    unfold He.DefD.kws
    rw [q4]
    rfl
  have hdf : d.dfl = [] := by
    have := dfl_len q5
    rw [e3] at this
    exact List.length_eq_zero_iff.mp this
  have hdv : d.dvs K = [] := by
    unfold He.DefD.dvs
    rw [hdf]
    rfl
  rw [q1, q2, q3, hkw, hdv, e1] at FD
  have hfa : fa = He.ga K "law" := by
    have := glo_at X N c (x := "law") (mem_fa (.inl (List.mem_map.mpr ⟨fn, hf, by rw [e1]⟩)))
    rw [hm] at this
    cases this
    rfl
  subst hfa
  refine ⟨fd, L.tf.map (He.cT K), spM K mg (L.T K) 1 [false] (L.pr.call n "law"), fun p hp => ?_, fun p hp => ?_, fun p hp => ?_, fun s u => bnd1 FD q6 (by rw [q7, e2]) s u, fun H a ns hl hb hT hS => ?_, fun base XB NB TB => ?_⟩
  · obtain ⟨x, hx, rfl⟩ := List.mem_map.mp hp
    exact c.empty x hx
  · obtain ⟨x, hx, rfl⟩ := List.mem_map.mp hp
    exact c.out x hx
  · obtain ⟨x, hx, rfl⟩ := List.mem_map.mp hp
    exact PySem.W.codeHd_of_K X (c.hd x hx)
  · have hT' : ∀ p ∈ L.T K, H p.1 = some (.tbl #[]) := fun p hp => by
      obtain ⟨x, hx, rfl⟩ := List.mem_map.mp hp
      exact hT (He.cT K (x, none)) (List.mem_map.mpr ⟨(x, none), List.mem_map.mpr ⟨x, hx, rfl⟩, rfl⟩)
    have key : ∃ S : Hp, Same S H ∧ NT S ∧ (∀ p ∈ L.T K, S p.1 = none) ∧ SqL K S a (ns.map V.int) := by
      rcases hS with hR | hK
      · have ⟨o, ho, hot, hR'⟩ : ∃ o, H a = some o ∧ (∀ ps, o ≠ .tbl ps) ∧ (∀ S : Hp, S a = some o → Rd S a (.lst (ns.map V.int))) := by
          rcases hR with hR | ⟨ob, hR⟩
          · exact ⟨_, hR, fun ps z => (by cases z), fun S hs => .inl hs⟩
          · exact ⟨_, hR, fun ps z => (by cases z), fun S hs => .inr ⟨ob, hs⟩⟩
        refine ⟨upd (fun _ => none) a o, fun b x hx => ?_, NT.upd (fun b ps z => by cases z) hot, fun p hp => ?_, .inl (hR' _ upd_same)⟩
        · by_cases z : b = a
          · subst z
            rw [upd_same] at hx
            cases hx
            exact ho
          · rw [upd_ne z] at hx
            cases hx
        · by_cases z : p.1 = a
          · have := hT' p hp
            rw [z, ho] at this
            cases this
            exact absurd rfl (hot _)
          · rw [upd_ne z]
      · exact ⟨fun _ => none, fun b x z => (by cases z), fun b ps z => (by cases z), fun p hp => rfl, .inr hK⟩
    obtain ⟨S, s1, s2, s3, s4⟩ := key
    refine ⟨fun _ => none, ⟨fun _ => none, fun _ => none⟩, S, [.scr ns], ⟨s1, fun b x z => (by cases z), fun b x z => (by cases z), ⟨s2, fun b ps z => (by cases z)⟩, fun p hp => ⟨#[], hT' p hp, ?_, fun pos cv hc => ?_⟩, fun p hp => ⟨s3 p hp, rfl⟩, rfl, fun i d e => ?_, fun i d e => ?_, fun i s e hf => ?_, fun i d e => (by cases e), fun i j b hij h1 => ?_⟩, rfl, rfl, rfl, rfl, ?_⟩
    · exact (show TriplesOk [] from trivial)
    · cases hc
    · cases i with
      | zero => cases e; exact ⟨_, rfl, .scr s4⟩
      | succ i => cases e
    · cases i with
      | zero => cases e
      | succ i => cases e
    · cases i with
      | zero => cases e; cases hf
      | succ i => cases e
    · cases i with
      | zero => cases h1
      | succ i => cases h1
    · rw [hall ns hl hb]
      intro v S' H' R' sm lv
      have lv : Rp K mg S' v (.bl true) := lv
      cases lv
      rfl
  · have PH : PrH L.pr L.G l.prog w K mg base (L.T K) := prH_of o X N c XB TB
    obtain ⟨fa', fd', dvs', FH⟩ := PH.fns fn hf
    have hfa : fa' = He.ga K "law" := by
      have := FH.hm
      rw [e1, hm] at this
      cases this
      rfl
    subst hfa
    have hfd : fd' = fd := by
      obtain ⟨params, body, scope, lam, FD', _⟩ := FH.ex
      exact funD_uniq FD' FD
    subst hfd
    have := prog_ok PH n fn _ _ _ hf FH
    rw [e1, e2, e4] at this
    exact this
end
end Mini

/- M9c -/
set_option Elab.async false
set_option linter.all false
set_option maxRecDepth 100000
set_option maxHeartbeats 2000000
/-! MINI 9c: the end of a law. -/
namespace Mini
open PySem PySem.Spec PyProof.Rows L2 LamX
theorem room_lvl {n : Nat} (hn : n ≤ 76) : Room (lvl n) callerA := by
  refine Room.mono (k := 230) ⟨rfl, by decide, by decide⟩ ?_
  unfold lvl
  omega
theorem law_walk {l : PySem.W.OpenLaw} {L : LawD} {n m : Nat} {q : Program} {loose : List Str} {XP : (Str → Option Value) → Heap → Prop} {d : DefRec} (ok : L.ok = true) (hn : l.most = some 63) (hd : d.name = ("law" : Str)) (hdf : d.params.defaults = []) (hn9 : n ≤ 76)
    {fn : Fn} (hf : L.pr.find "law" = some fn) (e2 : fn.pars = ([("script" : Str)] : List Str)) (e3 : fn.dfl.isEmpty = true) (e4 : fn.ino = [false])
    (hall : ∀ ns : List Int, ns.length ≤ 63 → (∀ z ∈ ns, Builtin.Int.intBits z ≤ 1048576) → L.pr.call n "law" [.scr ns] = .ok (.val (.bl true)) []) :
    PySem.W.WalkO q loose XP (He.hookX m L.fa (L.ds ++ L.ct) [] L.tf L.exB).says l.row.toRowW d [] (fun f vs => PySem.call f vs) := by
  refine walk_ofTsE (n := 63) (k := lvl n) (CX := fun w => L2.CX l.prog w) (x := "script") hn (by decide) hdf (room_lvl hn9) (fun w mg fa h Y N hm => ?_) fun w H s e s' z => ?_
  · obtain ⟨K, KX, c⟩ := Y
    rw [hd] at hm
    have hmem : fn ∈ L.pr.fns := List.mem_of_find?_eq_some hf
    have hnm : fn.name = "law" := of_decide_eq_true (List.find?_some (p := fun g : Fn => decide (g.name = "law")) hf)
    exact ⟨K, KX, lawAt (oks_of ok) KX N c hm hmem hnm e2 (List.isEmpty_iff.mp e3) e4 hall⟩
  · obtain ⟨_, _, _, _, _, _, _, _, _, _, _, _, z⟩ := z
    exact z
end Mini

/- S1 -/
set_option Elab.async false
set_option linter.all false
set_option maxRecDepth 100000
/-! S1: the mini evaluation, step by step, for simp: continuations by name, nothing is looked at before its turn. -/
namespace Mini
open PySem
variable {F : Ifc} {ρ : Env} {α β : Type}
/-! ### names -/
def takeS (s : Option Slot) (i : Nat) (ρ : Env) : Res D := match s with
  | some (.val d) => .ok d ρ
  | some (.own d) => .ok d (ρ.set i (.val d))
  | _ => .bad
theorem take_s {i : Nat} : take i ρ = takeS ρ[i]? i ρ := by
  unfold take takeS
  cases ρ[i]? with
  | none => rfl
  | some s => cases s <;> rfl
theorem takeS_val {i : Nat} {d : D} : takeS (some (.val d)) i ρ = .ok d ρ := rfl
theorem takeS_own {i : Nat} {d : D} : takeS (some (.own d)) i ρ = .ok d (ρ.set i (.val d)) := rfl
def lookS : Option Slot → Option D
  | some (.val d) => some d
  | some (.own d) => some d
  | some (.ref d) => some d
  | some (.lk d) => some d
  | _ => none
theorem look_s {i : Nat} : look i ρ = lookS ρ[i]? := by
  unfold look lookS
  cases ρ[i]? with
  | none => rfl
  | some s => cases s <;> rfl
theorem look_val {d : D} : lookS (some (.val d)) = some d := rfl
theorem look_own {d : D} : lookS (some (.own d)) = some d := rfl
theorem look_ref {d : D} : lookS (some (.ref d)) = some d := rfl
theorem look_lk {d : D} : lookS (some (.lk d)) = some d := rfl
def slotOf : RV → Slot
  | .val d => .val d
  | .own d => .own d
theorem slotOf_val {d : D} : slotOf (.val d) = .val d := rfl
theorem slotOf_own {d : D} : slotOf (.own d) = .own d := rfl
def putS (s : Option Slot) (i : Nat) (r : RV) (ρ : Env) : Option Env := match s with
  | some (.no) | some (.val _) | some (.own _) => some (ρ.set i (slotOf r))
  | _ => none
theorem put_s {i : Nat} {r : RV} : put i r ρ = putS ρ[i]? i r ρ := by
  unfold put putS
  cases ρ[i]? with
  | none => rfl
  | some s => cases s <;> cases r <;> rfl
theorem putS_no {i : Nat} {r : RV} : putS (some .no) i r ρ = some (ρ.set i (slotOf r)) := rfl
theorem putS_val {i : Nat} {r : RV} {d : D} : putS (some (.val d)) i r ρ = some (ρ.set i (slotOf r)) := rfl
theorem putS_own {i : Nat} {r : RV} {d : D} : putS (some (.own d)) i r ρ = some (ρ.set i (slotOf r)) := rfl
def changeS (s : Option Slot) (i : Nat) (d : D) (ρ : Env) : Option Env := match s with
  | some (.own _) => some (ρ.set i (.own d))
  | some (.ref _) => some (ρ.set i (.ref d))
  | _ => none
theorem change_s {i : Nat} {d : D} : change i d ρ = changeS ρ[i]? i d ρ := by
  unfold change changeS
  cases ρ[i]? with
  | none => rfl
  | some s => cases s <;> rfl
theorem changeS_own {i : Nat} {d e : D} : changeS (some (.own e)) i d ρ = some (ρ.set i (.own d)) := rfl
theorem changeS_ref {i : Nat} {d e : D} : changeS (some (.ref e)) i d ρ = some (ρ.set i (.ref d)) := rfl
def ownedS : Option Slot → Option D
  | some (.own d) => some d
  | some (.ref d) => some d
  | _ => none
theorem owned_s {i : Nat} : owned i ρ = ownedS ρ[i]? := by
  unfold owned ownedS
  cases ρ[i]? with
  | none => rfl
  | some s => cases s <;> rfl
theorem ownedS_own {d : D} : ownedS (some (.own d)) = some d := rfl
theorem ownedS_ref {d : D} : ownedS (some (.ref d)) = some d := rfl
theorem fetch_sl {i : Nat} : fetch ρ (.sl i) = lookS ρ[i]? := look_s
theorem fetch_v {d : D} : fetch ρ (.v d) = some d := rfl
theorem fetch_t {d : D} : fetch ρ (.t d) = some d := rfl
def consO : Option D → Option (List D) → Option (List D)
  | some d, some ds => some (d :: ds)
  | _, _ => none
theorem consO_s {d : D} {ds : List D} : consO (some d) (some ds) = some (d :: ds) := rfl
theorem fetchAll_nil : fetchAll ρ [] = some [] := rfl
theorem fetchAll_cons {o : Opd} {os : List Opd} : fetchAll ρ (o :: os) = consO (fetch ρ o) (fetchAll ρ os) := by
  show (fetch ρ o).bind _ = _
  cases fetch ρ o <;> cases fetchAll ρ os <;> rfl
theorem asg_sl {i : Nat} {d : D} : asg (.sl i) d ρ = putS ρ[i]? i (.val d) ρ := put_s (r := .val d)
theorem asg_tp {ts : List Tg} {ds : List D} : asg (.tp ts) (.tup ds) ρ = asgs ts ds ρ := rfl
theorem asgs_nil : asgs [] [] ρ = some ρ := rfl
def asgK (ts : List Tg) (ds : List D) : Option Env → Option Env
  | some ρ => asgs ts ds ρ
  | none => none
theorem asgK_s {ts : List Tg} {ds : List D} : asgK ts ds (some ρ) = asgs ts ds ρ := rfl
theorem asgs_cons {t : Tg} {ts : List Tg} {d : D} {ds : List D} : asgs (t :: ts) (d :: ds) ρ = asgK ts ds (asg t d ρ) := by
  show (asg t d ρ).bind _ = _
  cases asg t d ρ <;> rfl
/-! ### as values, operands, tests -/
theorem RV_val {d : D} : (RV.val d).d = d := rfl
theorem RV_own {d : D} : (RV.own d).d = d := rfl
def kD : RV → Den D := fun r ρ => .ok r.d ρ
theorem kD_s {r : RV} : kD r ρ = .ok r.d ρ := rfl
def kV : RV → Den Opd := fun r ρ => .ok (.v r.d) ρ
theorem kV_s {r : RV} : kV r ρ = .ok (.v r.d) ρ := rfl
def kVal : D → Den RV := fun d ρ => .ok (.val d) ρ
theorem kVal_s {d : D} : kVal d ρ = .ok (.val d) ρ := rfl
theorem ev_vV {e : E} : vV (denE F e) ρ = (denE F e ρ).bind kD := rfl
def isSlot : E → Bool
  | .slot _ => true
  | _ => false
def slotO (i : Nat) (ρ : Env) : Option D → Res Opd
  | some _ => .ok (.sl i) ρ
  | none => .bad
theorem slotO_s {i : Nat} {d : D} : slotO i ρ (some d) = .ok (.sl i) ρ := rfl
theorem vO_slot {i : Nat} {f : Den RV} : vO (.slot i) f ρ = slotO i ρ (lookS ρ[i]?) := by
  show (if (look i ρ).isSome then _ else _) = _
  rw [look_s]
  cases lookS ρ[i]? <;> rfl
theorem vO_lit {d : D} {f : Den RV} : vO (.lit d) f ρ = (f ρ).bind kV := rfl
theorem vO_glob {x : Str} {f : Den RV} : vO (.glob x) f ρ = (f ρ).bind kV := rfl
theorem vO_op {o : Op2} {a b : E} {f : Den RV} : vO (.op o a b) f ρ = (f ρ).bind kV := rfl
theorem vO_neg {a : E} {f : Den RV} : vO (.neg a) f ρ = (f ρ).bind kV := rfl
theorem vO_not {a : E} {f : Den RV} : vO (.notE a) f ρ = (f ρ).bind kV := rfl
theorem vO_and {a b : E} {f : Den RV} : vO (.andE a b) f ρ = (f ρ).bind kV := rfl
theorem vO_or {a b : E} {f : Den RV} : vO (.orE a b) f ρ = (f ρ).bind kV := rfl
theorem vO_cmp {c : CmpO} {a b : E} {f : Den RV} : vO (.cmp c a b) f ρ = (f ρ).bind kV := rfl
theorem vO_chain {c c' : CmpO} {a b d : E} {f : Den RV} : vO (.chain c c' a b d) f ρ = (f ρ).bind kV := rfl
theorem vO_ite {a b c : E} {f : Den RV} : vO (.ite a b c) f ρ = (f ρ).bind kV := rfl
theorem vO_tup {st : List Bool} {es : List E} {f : Den RV} : vO (.tup st es) f ρ = (f ρ).bind kV := rfl
theorem vO_lst {st : List Bool} {es : List E} {f : Den RV} : vO (.lst st es) f ρ = (f ρ).bind kV := rfl
theorem vO_dict {ks vs : List E} {f : Den RV} : vO (.dict ks vs) f ρ = (f ρ).bind kV := rfl
theorem vO_idx {a b : E} {f : Den RV} : vO (.idx a b) f ρ = (f ρ).bind kV := rfl
theorem vO_slice {a b c : E} {f : Den RV} : vO (.slice a b c) f ρ = (f ρ).bind kV := rfl
theorem vO_rev {a : E} {f : Den RV} : vO (.rev a) f ρ = (f ρ).bind kV := rfl
theorem vO_call {x : Str} {as ws : List E} {ks : List Str} {f : Den RV} : vO (.call x as ks ws) f ρ = (f ρ).bind kV := rfl
theorem vO_callv {i : Nat} {fs : List Str} {as : List E} {f : Den RV} : vO (.callv i fs as) f ρ = (f ρ).bind kV := rfl
theorem vO_bi {b : BI} {as : List E} {f : Den RV} : vO (.bi b as) f ρ = (f ρ).bind kV := rfl
theorem vO_pop {i : Nat} {f : Den RV} : vO (.pop i) f ρ = (f ρ).bind kV := rfl
theorem vO_comp {own : List Nat} {tg : Tg} {it : E} {ifs : List E} {elt : E} {f : Den RV} : vO (.comp own tg it ifs elt) f ρ = (f ρ).bind kV := rfl
theorem vO_comp2 {own own2 : List Nat} {tg tg2 : Tg} {it it2 : E} {ifs ifs2 : List E} {elt : E} {f : Den RV} : vO (.comp2 own own2 tg it ifs tg2 it2 ifs2 elt) f ρ = (f ρ).bind kV := rfl
theorem vO_range {es : List E} {f : Den RV} : vO (.range es) f ρ = (f ρ).bind kV := rfl
theorem vO_enum {a : E} {f : Den RV} : vO (.enum a) f ρ = (f ρ).bind kV := rfl
theorem vO_zip {es : List E} {f : Den RV} : vO (.zip es) f ρ = (f ρ).bind kV := rfl
theorem vO_attr {a : E} {x : Str} {f : Den RV} : vO (.attr a x) f ρ = (f ρ).bind kV := rfl
theorem vO_caught {e : E} {f : Den RV} : vO (.caught e) f ρ = (f ρ).bind kV := rfl
def truO : Option D → Option Bool
  | some d => d.tru
  | none => none
theorem truO_s {d : D} : truO (some d) = d.tru := rfl
def kTru : Opd → Den Bool := fun o ρ => Res.of (truO (fetch ρ o)) ρ
theorem kTru_s {o : Opd} : kTru o ρ = Res.of (truO (fetch ρ o)) ρ := rfl
theorem ev_vT {e : E} : vT e (denE F e) ρ = (vO e (denE F e) ρ).bind kTru := by
  show (vO e (denE F e) ρ).bind _ = _
  congr 1
  funext o ρ
  show Res.of ((fetch ρ o).bind D.tru) ρ = Res.of (truO (fetch ρ o)) ρ
  cases fetch ρ o <;> rfl
def kP : RV → Den (Option Int) := fun r ρ => Res.of (optI r.d) ρ
theorem kP_s {r : RV} : kP r ρ = Res.of (optI r.d) ρ := rfl
theorem ev_vP {e : E} : vP (denE F e) ρ = (denE F e ρ).bind kP := by
  unfold vP vV
  cases denE F e ρ <;> rfl
theorem optI_non : optI .non = some none := rfl
theorem optI_int {i : Int} : optI (.int i) = some (some i) := rfl
def seqO : Option D → Option (List D)
  | some d => seqOf d
  | none => none
theorem seqO_s {d : D} : seqO (some d) = seqOf d := rfl
def kIt : Opd → Den (List D) := fun o ρ => Res.of (seqO (fetch ρ o)) ρ
theorem kIt_s {o : Opd} : kIt o ρ = Res.of (seqO (fetch ρ o)) ρ := rfl
theorem ev_vIt {e : E} : vIt e (denE F e) ρ = (vO e (denE F e) ρ).bind kIt := by
  show (vO e (denE F e) ρ).bind _ = _
  congr 1
  funext o ρ
  show Res.of ((fetch ρ o).bind seqOf) ρ = Res.of (seqO (fetch ρ o)) ρ
  cases fetch ρ o <;> rfl
def kCons (d : D) : List D → Den (List D) := fun ds ρ => .ok (d :: ds) ρ
theorem kCons_s {d : D} {ds : List D} : kCons d ds ρ = .ok (d :: ds) ρ := rfl
def kApp (xs : List D) : List D → Den (List D) := fun ds ρ => .ok (xs ++ ds) ρ
theorem kApp_s {xs ds : List D} : kApp xs ds ρ = .ok (xs ++ ds) ρ := rfl
def kVs (F : Ifc) (es : List E) : RV → Den (List D) := fun r ρ => (vVs (denL F es) ρ).bind (kCons r.d)
theorem kVs_s {es : List E} {r : RV} : kVs F es r ρ = (vVs (denL F es) ρ).bind (kCons r.d) := rfl
theorem vVs_nil : vVs (denL F []) ρ = .ok [] ρ := rfl
theorem vVs_cons {e : E} {es : List E} : vVs (denL F (e :: es)) ρ = (denE F e ρ).bind (kVs F es) := by
  show (vV (denE F e) ρ).bind _ = _
  unfold vV
  cases denE F e ρ <;> rfl
def kOcons (o : Opd) : List Opd → Den (List Opd) := fun os ρ => .ok (o :: os) ρ
theorem kOcons_s {o : Opd} {os : List Opd} : kOcons o os ρ = .ok (o :: os) ρ := rfl
def kOs (F : Ifc) (es : List E) : Opd → Den (List Opd) := fun o ρ => (vOs es (denL F es) ρ).bind (kOcons o)
theorem kOs_s {es : List E} {o : Opd} : kOs F es o ρ = (vOs es (denL F es) ρ).bind (kOcons o) := rfl
theorem vOs_nil {fs : List (Den RV)} : vOs [] fs ρ = .ok [] ρ := rfl
theorem vOs_cons {e : E} {es : List E} : vOs (e :: es) (denL F (e :: es)) ρ = (vO e (denE F e) ρ).bind (kOs F es) := rfl
def kSf (F : Ifc) (st : List Bool) (es : List E) : RV → Den (List D) := fun r ρ => (spr st (denL F es) ρ).bind (kCons r.d)
theorem kSf_s {st : List Bool} {es : List E} {r : RV} : kSf F st es r ρ = (spr st (denL F es) ρ).bind (kCons r.d) := rfl
def kSt2 (F : Ifc) (st : List Bool) (es : List E) : List D → Den (List D) := fun xs ρ => (spr st (denL F es) ρ).bind (kApp xs)
theorem kSt2_s {st : List Bool} {es : List E} {xs : List D} : kSt2 F st es xs ρ = (spr st (denL F es) ρ).bind (kApp xs) := rfl
def kSt (F : Ifc) (st : List Bool) (es : List E) : RV → Den (List D) := fun r ρ => (Res.of (seqTL r.d) ρ).bind (kSt2 F st es)
theorem kSt_s {st : List Bool} {es : List E} {r : RV} : kSt F st es r ρ = (Res.of (seqTL r.d) ρ).bind (kSt2 F st es) := rfl
theorem spr_nil : spr [] (denL F []) ρ = .ok [] ρ := rfl
theorem spr_f {st : List Bool} {e : E} {es : List E} : spr (false :: st) (denL F (e :: es)) ρ = (denE F e ρ).bind (kSf F st es) := by
  show (vV (denE F e) ρ).bind _ = _
  unfold vV
  cases denE F e ρ <;> rfl
theorem spr_t {st : List Bool} {e : E} {es : List E} : spr (true :: st) (denL F (e :: es)) ρ = (denE F e ρ).bind (kSt F st es) := by
  show (vV (denE F e) ρ).bind _ = _
  unfold vV
  cases denE F e ρ <;> rfl
def kAf (F : Ifc) (bs : List Bool) (es : List E) : RV → Den (List Opd) := fun r ρ => (vAs bs es (denL F es) ρ).bind (kOcons (.v r.d))
theorem kAf_s {bs : List Bool} {es : List E} {r : RV} : kAf F bs es r ρ = (vAs bs es (denL F es) ρ).bind (kOcons (.v r.d)) := rfl
def lentS (F : Ifc) (bs : List Bool) (es : List E) (i : Nat) (ρ : Env) : Option D → Res (List Opd)
  | some _ => (vAs bs es (denL F es) ρ).bind (kOcons (.sl i))
  | none => .bad
theorem lentS_s {bs : List Bool} {es : List E} {i : Nat} {d : D} : lentS F bs es i ρ (some d) = (vAs bs es (denL F es) ρ).bind (kOcons (.sl i)) := rfl
theorem vAs_t {bs : List Bool} {i : Nat} {es : List E} : vAs (true :: bs) (.slot i :: es) (denL F (.slot i :: es)) ρ = lentS F bs es i ρ (ownedS ρ[i]?) := by
  show (vL (.slot i) (denE F (.slot i)) ρ).bind _ = _
  unfold vL
  dsimp only
  rw [owned_s]
  cases ownedS ρ[i]? <;> rfl
theorem vAs_f {bs : List Bool} {e : E} {es : List E} : vAs (false :: bs) (e :: es) (denL F (e :: es)) ρ = (denE F e ρ).bind (kAf F bs es) := by
  show (vV (denE F e) ρ).bind _ = _
  unfold vV
  cases denE F e ρ <;> rfl
theorem vAs_nil {bs : List Bool} : vAs bs [] (denL F []) ρ = .ok [] ρ := by
  cases bs with
  | nil => rfl
  | cons b bs => cases b <;> rfl
def kKV3 (k v : D) : List D × List D → Den (List D × List D) := fun p ρ => .ok (k :: p.1, v :: p.2) ρ
theorem kKV3_s {k v : D} {a b : List D} : kKV3 k v (a, b) ρ = .ok (k :: a, v :: b) ρ := rfl
def kKV2 (F : Ifc) (ks vs : List E) (k : D) : RV → Den (List D × List D) := fun v ρ => (vKV (denL F ks) (denL F vs) ρ).bind (kKV3 k v.d)
theorem kKV2_s {ks vs : List E} {k : D} {v : RV} : kKV2 F ks vs k v ρ = (vKV (denL F ks) (denL F vs) ρ).bind (kKV3 k v.d) := rfl
def kKV (F : Ifc) (e : E) (ks vs : List E) : RV → Den (List D × List D) := fun k ρ => (denE F e ρ).bind (kKV2 F ks vs k.d)
theorem kKV_s {e : E} {ks vs : List E} {k : RV} : kKV F e ks vs k ρ = (denE F e ρ).bind (kKV2 F ks vs k.d) := rfl
theorem vKV_nil : vKV (denL F []) (denL F []) ρ = .ok ([], []) ρ := rfl
theorem vKV_cons {k v : E} {ks vs : List E} : vKV (denL F (k :: ks)) (denL F (v :: vs)) ρ = (denE F k ρ).bind (kKV F v ks vs) := by
  show (vV (denE F k) ρ).bind _ = _
  unfold vV
  cases denE F k ρ with
  | ok r ρ1 =>
    show (vV (denE F v) ρ1).bind _ = _
    unfold vV
    show _ = (denE F v ρ1).bind (kKV2 F ks vs r.d)
    cases denE F v ρ1 <;> rfl
  | ex => rfl
  | bad => rfl
def kTs (F : Ifc) (es : List E) : Bool → Den Bool
  | true => vTs es (denL F es)
  | false => fun ρ => .ok false ρ
theorem kTs_t {es : List E} : kTs F es true ρ = vTs es (denL F es) ρ := rfl
theorem kTs_f {es : List E} : kTs F es false ρ = .ok false ρ := rfl
theorem vTs_nil {fs : List (Den RV)} : vTs [] fs ρ = .ok true ρ := by cases fs <;> rfl
theorem vTs_cons {e : E} {es : List E} : vTs (e :: es) (denL F (e :: es)) ρ = (vT e (denE F e) ρ).bind (kTs F es) := by
  show (vT e (denE F e) ρ).bind _ = _
  congr 1
  funext k ρ
  cases k <;> rfl
def kRcons (r : RV) : List RV → Den (List RV) := fun rs ρ => .ok (r :: rs) ρ
theorem kRcons_s {r : RV} {rs : List RV} : kRcons r rs ρ = .ok (r :: rs) ρ := rfl
def kRs (F : Ifc) (es : List E) : RV → Den (List RV) := fun r ρ => (vRs (denL F es) ρ).bind (kRcons r)
theorem kRs_s {es : List E} {r : RV} : kRs F es r ρ = (vRs (denL F es) ρ).bind (kRcons r) := rfl
theorem vRs_nil : vRs (denL F []) ρ = .ok [] ρ := rfl
theorem vRs_cons {e : E} {es : List E} : vRs (denL F (e :: es)) ρ = (denE F e ρ).bind (kRs F es) := rfl
/-! ### expressions -/
theorem Res.of_none {a : Type} : (Res.of (none : Option a) ρ) = .bad := rfl
theorem Res.of_some' {a : Type} {x : a} : Res.of (some x) ρ = .ok x ρ := rfl
theorem bind_ok' {a : α} {f : α → Env → Res β} : (Res.ok a ρ).bind f = f a ρ := rfl
theorem bind_ex' {c : Str} {pl : List D} {f : α → Env → Res β} : (Res.ex c pl ρ : Res α).bind f = .ex c pl ρ := rfl
theorem bind_bad' {f : α → Env → Res β} : (Res.bad : Res α).bind f = .bad := rfl
theorem ev_slot {i : Nat} : denE F (.slot i) ρ = (takeS ρ[i]? i ρ).bind kVal := by
  show (take i ρ).bind _ = _
  rw [take_s]
  rfl
theorem ev_lit {d : D} : denE F (.lit d) ρ = .ok (.val d) ρ := rfl
theorem ev_glob {x : Str} : denE F (.glob x) ρ = (Res.of (F.glob x) ρ).bind kVal := rfl
def opO (o : Op2) : Option D → Option D → Option RV
  | some x, some y => op2 o x y
  | _, _ => none
theorem opO_s {o : Op2} {x y : D} : opO o (some x) (some y) = op2 o x y := rfl
def kOp2 (o : Op2) (x : Opd) : Opd → Den RV := fun y ρ => Res.of (opO o (fetch ρ x) (fetch ρ y)) ρ
theorem kOp2_s {o : Op2} {x y : Opd} : kOp2 o x y ρ = Res.of (opO o (fetch ρ x) (fetch ρ y)) ρ := rfl
def kOp (F : Ifc) (o : Op2) (b : E) : Opd → Den RV := fun x ρ => (vO b (denE F b) ρ).bind (kOp2 o x)
theorem kOp_s {o : Op2} {b : E} {x : Opd} : kOp F o b x ρ = (vO b (denE F b) ρ).bind (kOp2 o x) := rfl
theorem ev_op {o : Op2} {a b : E} : denE F (.op o a b) ρ = (vO a (denE F a) ρ).bind (kOp F o b) := by
  rw [denE]
  dsimp only
  congr 1
  funext x ρ
  rw [kOp_s]
  congr 1
  funext y ρ
  rw [kOp2_s]
  cases fetch ρ x <;> cases fetch ρ y <;> rfl
def negO : Option D → Option RV
  | some (.int i) => some (.val (.int (-i)))
  | _ => none
theorem negO_int {i : Int} : negO (some (.int i)) = some (.val (.int (-i))) := rfl
def kNeg : Opd → Den RV := fun x ρ => Res.of (negO (fetch ρ x)) ρ
theorem kNeg_s {x : Opd} : kNeg x ρ = Res.of (negO (fetch ρ x)) ρ := rfl
theorem ev_neg {a : E} : denE F (.neg a) ρ = (vO a (denE F a) ρ).bind kNeg := by
  rw [denE]
  dsimp only
  congr 1
  funext x ρ
  rw [kNeg_s]
  congr 1
  cases fetch ρ x with
  | none => rfl
  | some d => cases d <;> rfl
def notO : Option Bool → Option RV
  | some b => some (.val (.bl (!b)))
  | none => none
theorem notO_s {b : Bool} : notO (some b) = some (.val (.bl (!b))) := rfl
def kNot : Opd → Den RV := fun x ρ => Res.of (notO (truO (fetch ρ x))) ρ
theorem kNot_s {x : Opd} : kNot x ρ = Res.of (notO (truO (fetch ρ x))) ρ := rfl
theorem ev_not {a : E} : denE F (.notE a) ρ = (vO a (denE F a) ρ).bind kNot := by
  rw [denE]
  dsimp only
  congr 1
  funext x ρ
  rw [kNot_s]
  congr 1
  cases fetch ρ x with
  | none => rfl
  | some d =>
    show (D.tru d).map _ = notO (D.tru d)
    cases D.tru d <;> rfl
def kLastB : RV → Den RV := lastB
theorem kLastB_s {k : Bool} : kLastB (.val (.bl k)) ρ = .ok (.val (.bl k)) ρ := rfl
def kAnd (F : Ifc) (b : E) : RV → Den RV
  | .val (.bl true), ρ => (denE F b ρ).bind kLastB
  | .val (.bl false), ρ => .ok (.val (.bl false)) ρ
  | _, _ => .bad
def kOr (F : Ifc) (b : E) : RV → Den RV
  | .val (.bl false), ρ => (denE F b ρ).bind kLastB
  | .val (.bl true), ρ => .ok (.val (.bl true)) ρ
  | _, _ => .bad
theorem ev_and {a b : E} : denE F (.andE a b) ρ = (denE F a ρ).bind (kAnd F b) := by
  rw [denE]
  dsimp only
  congr 1
  funext r ρ
  cases r with
  | own d => rfl
  | val d => cases d with
    | bl b => cases b <;> rfl
    | _ => rfl
theorem ev_or {a b : E} : denE F (.orE a b) ρ = (denE F a ρ).bind (kOr F b) := by
  rw [denE]
  dsimp only
  congr 1
  funext r ρ
  cases r with
  | own d => rfl
  | val d => cases d with
    | bl b => cases b <;> rfl
    | _ => rfl
theorem kAnd_t {b : E} : kAnd F b (.val (.bl true)) ρ = (denE F b ρ).bind kLastB := rfl
theorem kAnd_f {b : E} : kAnd F b (.val (.bl false)) ρ = .ok (.val (.bl false)) ρ := rfl
theorem kOr_f {b : E} : kOr F b (.val (.bl false)) ρ = (denE F b ρ).bind kLastB := rfl
theorem kOr_t {b : E} : kOr F b (.val (.bl true)) ρ = .ok (.val (.bl true)) ρ := rfl
/-- a conjunction whose second part is known where the first holds -/
theorem kAnd_ok {b : E} {p q : Bool} (h : p = true → denE F b ρ = .ok (.val (.bl q)) ρ) : kAnd F b (.val (.bl p)) ρ = .ok (.val (.bl (p && q))) ρ := by
  cases p with
  | false => rfl
  | true => rw [kAnd_t, h rfl]; rfl
theorem kOr_ok {b : E} {p q : Bool} (h : p = false → denE F b ρ = .ok (.val (.bl q)) ρ) : kOr F b (.val (.bl p)) ρ = .ok (.val (.bl (p || q))) ρ := by
  cases p with
  | true => rfl
  | false => rw [kOr_f, h rfl]; rfl
def blO : Option Bool → Option RV
  | some b => some (.val (.bl b))
  | none => none
theorem blO_s {b : Bool} : blO (some b) = some (.val (.bl b)) := rfl
def cmpO (c : CmpO) : Option D → Option D → Option Bool
  | some x, some y => cmp c x y
  | _, _ => none
theorem cmpO_s {c : CmpO} {x y : D} : cmpO c (some x) (some y) = cmp c x y := rfl
def kCmp2 (c : CmpO) (x : Opd) : Opd → Den RV := fun y ρ => Res.of (blO (cmpO c (fetch ρ x) (fetch ρ y))) ρ
theorem kCmp2_s {c : CmpO} {x y : Opd} : kCmp2 c x y ρ = Res.of (blO (cmpO c (fetch ρ x) (fetch ρ y))) ρ := rfl
def kCmp (F : Ifc) (c : CmpO) (b : E) : Opd → Den RV := fun x ρ => (vO b (denE F b) ρ).bind (kCmp2 c x)
theorem kCmp_s {c : CmpO} {b : E} {x : Opd} : kCmp F c b x ρ = (vO b (denE F b) ρ).bind (kCmp2 c x) := rfl
theorem blO_cmp {c : CmpO} {x y : Option D} : (x.bind fun x => y.bind fun y => (cmp c x y).map fun b => RV.val (.bl b)) = blO (cmpO c x y) := by
  cases x with
  | none => rfl
  | some x => cases y with
    | none => rfl
    | some y =>
      show (cmp c x y).map _ = blO (cmp c x y)
      cases cmp c x y <;> rfl
theorem ev_cmp {c : CmpO} {a b : E} : denE F (.cmp c a b) ρ = (vO a (denE F a) ρ).bind (kCmp F c b) := by
  rw [denE]
  dsimp only
  congr 1
  funext x ρ
  rw [kCmp_s]
  congr 1
  funext y ρ
  rw [kCmp2_s, blO_cmp]
def kCh3 (F : Ifc) (c2 : CmpO) (c : E) (y : Opd) : Bool → Den RV
  | true => fun ρ => (vO c (denE F c) ρ).bind (kCmp2 c2 y)
  | false => fun ρ => .ok (.val (.bl false)) ρ
theorem kCh3_t {c2 : CmpO} {c : E} {y : Opd} : kCh3 F c2 c y true ρ = (vO c (denE F c) ρ).bind (kCmp2 c2 y) := rfl
theorem kCh3_f {c2 : CmpO} {c : E} {y : Opd} : kCh3 F c2 c y false ρ = .ok (.val (.bl false)) ρ := rfl
theorem kCh3_ok {c2 : CmpO} {c : E} {y : Opd} {p q : Bool} (h : (vO c (denE F c) ρ).bind (kCmp2 c2 y) = .ok (.val (.bl q)) ρ) : kCh3 F c2 c y p ρ = .ok (.val (.bl (p && q))) ρ := by
  cases p with
  | false => rfl
  | true => rw [kCh3_t, h]; rfl
def kCh2 (F : Ifc) (c1 c2 : CmpO) (c : E) (x : Opd) : Opd → Den RV := fun y ρ => (Res.of (cmpO c1 (fetch ρ x) (fetch ρ y)) ρ).bind (kCh3 F c2 c y)
theorem kCh2_s {c1 c2 : CmpO} {c : E} {x y : Opd} : kCh2 F c1 c2 c x y ρ = (Res.of (cmpO c1 (fetch ρ x) (fetch ρ y)) ρ).bind (kCh3 F c2 c y) := rfl
def kCh (F : Ifc) (c1 c2 : CmpO) (b c : E) : Opd → Den RV := fun x ρ => (vO b (denE F b) ρ).bind (kCh2 F c1 c2 c x)
theorem kCh_s {c1 c2 : CmpO} {b c : E} {x : Opd} : kCh F c1 c2 b c x ρ = (vO b (denE F b) ρ).bind (kCh2 F c1 c2 c x) := rfl
theorem ev_chain {c1 c2 : CmpO} {a b c : E} : denE F (.chain c1 c2 a b c) ρ = (vO a (denE F a) ρ).bind (kCh F c1 c2 b c) := by
  rw [denE]
  dsimp only
  congr 1
  funext x ρ
  rw [kCh_s]
  congr 1
  funext y ρ
  rw [kCh2_s]
  have e : ((fetch ρ x).bind fun x => (fetch ρ y).bind fun y => cmp c1 x y) = cmpO c1 (fetch ρ x) (fetch ρ y) := by
    cases fetch ρ x <;> cases fetch ρ y <;> rfl
  rw [e]
  congr 1
  funext k ρ
  cases k with
  | false => rfl
  | true =>
    rw [kCh3_t, if_pos rfl]
    congr 1
    funext z ρ
    rw [kCmp2_s, blO_cmp]
def kRet : D → Den RV := fun d ρ => .ok (.val d) ρ
theorem kRet_s {d : D} : kRet d ρ = .ok (.val d) ρ := rfl
def kVRet : RV → Den RV := fun r ρ => .ok (.val r.d) ρ
theorem kVRet_s {r : RV} : kVRet r ρ = .ok (.val r.d) ρ := rfl
def kIte (F : Ifc) (a b : E) : Bool → Den RV
  | true => fun ρ => (denE F a ρ).bind kVRet
  | false => fun ρ => (denE F b ρ).bind kVRet
theorem kIte_t {a b : E} : kIte F a b true ρ = (denE F a ρ).bind kVRet := rfl
theorem kIte_f {a b : E} : kIte F a b false ρ = (denE F b ρ).bind kVRet := rfl
theorem vV_ret {e : E} : ((vV (denE F e) ρ).bind fun d ρ => Res.ok (RV.val d) ρ) = (denE F e ρ).bind kVRet := by
  unfold vV
  cases denE F e ρ <;> rfl
theorem ev_ite {c a b : E} : denE F (.ite c a b) ρ = (vT c (denE F c) ρ).bind (kIte F a b) := by
  rw [denE]
  dsimp only
  congr 1
  funext k ρ
  cases k with
  | true => rw [kIte_t, if_pos rfl, vV_ret]
  | false => rw [kIte_f, if_neg (by decide), vV_ret]
/-- both ways end in values, the names as they were -/
theorem kIte_ok {a b : E} {k : Bool} {x y : D} (h1 : k = true → denE F a ρ = .ok (.val x) ρ) (h2 : k = false → denE F b ρ = .ok (.val y) ρ) : kIte F a b k ρ = .ok (.val (if k then x else y)) ρ := by
  cases k with
  | true => rw [kIte_t, h1 rfl]; rfl
  | false => rw [kIte_f, h2 rfl]; rfl
def kTup : List D → Den RV := fun xs ρ => if xs.length ≤ line then .ok (.val (.tup xs)) ρ else .bad
def kLst : List D → Den RV := fun xs ρ => if xs.length ≤ line then .ok (.own (.lst xs)) ρ else .bad
theorem kTup_s {xs : List D} (h : xs.length ≤ 16777216) : kTup xs ρ = .ok (.val (.tup xs)) ρ := if_pos h
theorem kLst_s {xs : List D} (h : xs.length ≤ 16777216) : kLst xs ρ = .ok (.own (.lst xs)) ρ := if_pos h
theorem ev_tup {st : List Bool} {es : List E} : denE F (.tup st es) ρ = (spr st (denL F es) ρ).bind kTup := rfl
theorem ev_lst {st : List Bool} {es : List E} : denE F (.lst st es) ρ = (spr st (denL F es) ρ).bind kLst := rfl
def kDict : List D × List D → Den RV := fun p ρ => if p.1.all keyOk && decide (p.1.length ≤ 15) then .ok (.own (.dic (mergeKV [] [] p.1 p.2).1 (mergeKV [] [] p.1 p.2).2)) ρ else .bad
theorem kDict_s {ks vs : List D} (h : (ks.all keyOk && decide (ks.length ≤ 15)) = true) : kDict (ks, vs) ρ = .ok (.own (.dic (mergeKV [] [] ks vs).1 (mergeKV [] [] ks vs).2)) ρ := if_pos h
theorem ev_dict {ks vs : List E} : denE F (.dict ks vs) ρ = (vKV (denL F ks) (denL F vs) ρ).bind kDict := rfl
def idxO : Option D → D → Option D
  | some x, y => idx x y
  | none, _ => none
theorem idxO_s {x y : D} : idxO (some x) y = idx x y := rfl
def valO : Option D → Option RV
  | some d => some (.val d)
  | none => none
theorem valO_s {d : D} : valO (some d) = some (.val d) := rfl
def kIdx2 (x : Opd) : RV → Den RV := fun y ρ => Res.of (valO (idxO (fetch ρ x) y.d)) ρ
theorem kIdx2_s {x : Opd} {y : RV} : kIdx2 x y ρ = Res.of (valO (idxO (fetch ρ x) y.d)) ρ := rfl
def kIdx (F : Ifc) (i : E) : Opd → Den RV := fun x ρ => (denE F i ρ).bind (kIdx2 x)
theorem kIdx_s {i : E} {x : Opd} : kIdx F i x ρ = (denE F i ρ).bind (kIdx2 x) := rfl
theorem ev_idx {a i : E} : denE F (.idx a i) ρ = (vO a (denE F a) ρ).bind (kIdx F i) := by
  rw [denE]
  dsimp only
  congr 1
  funext x ρ
  rw [kIdx_s]
  unfold vV
  cases denE F i ρ with
  | ok r ρ1 =>
    show Res.of ((fetch ρ1 x).bind fun x => (idx x r.d).map .val) ρ1 = kIdx2 x r ρ1
    rw [kIdx2_s]
    congr 1
    cases fetch ρ1 x with
    | none => rfl
    | some d =>
      show (idx d r.d).map _ = valO (idx d r.d)
      cases idx d r.d <;> rfl
  | ex => rfl
  | bad => rfl
def slO (l h : Option Int) : Option D → Option RV
  | some d => slice d l h
  | none => none
theorem slO_s {l h : Option Int} {d : D} : slO l h (some d) = slice d l h := rfl
def kSl3 (x : Opd) (l : Option Int) : Option Int → Den RV := fun h ρ => Res.of (slO l h (fetch ρ x)) ρ
theorem kSl3_s {x : Opd} {l h : Option Int} : kSl3 x l h ρ = Res.of (slO l h (fetch ρ x)) ρ := rfl
def kSl2 (F : Ifc) (h : E) (x : Opd) : Option Int → Den RV := fun l ρ => (vP (denE F h) ρ).bind (kSl3 x l)
theorem kSl2_s {h : E} {x : Opd} {l : Option Int} : kSl2 F h x l ρ = (vP (denE F h) ρ).bind (kSl3 x l) := rfl
def kSl (F : Ifc) (l h : E) : Opd → Den RV := fun x ρ => (vP (denE F l) ρ).bind (kSl2 F h x)
theorem kSl_s {l h : E} {x : Opd} : kSl F l h x ρ = (vP (denE F l) ρ).bind (kSl2 F h x) := rfl
theorem ev_slice {a l h : E} : denE F (.slice a l h) ρ = (vO a (denE F a) ρ).bind (kSl F l h) := by
  rw [denE]
  dsimp only
  congr 1
  funext x ρ
  rw [kSl_s]
  congr 1
  funext l ρ
  rw [kSl2_s]
  congr 1
  funext h ρ
  rw [kSl3_s]
  congr 1
  cases fetch ρ x <;> rfl
def revO : Option D → Option RV
  | some d => rev d
  | none => none
theorem revO_s {d : D} : revO (some d) = rev d := rfl
def kRev : Opd → Den RV := fun x ρ => Res.of (revO (fetch ρ x)) ρ
theorem kRev_s {x : Opd} : kRev x ρ = Res.of (revO (fetch ρ x)) ρ := rfl
theorem ev_rev {a : E} : denE F (.rev a) ρ = (vO a (denE F a) ρ).bind kRev := by
  rw [denE]
  dsimp only
  congr 1
  funext x ρ
  rw [kRev_s]
  congr 1
  cases fetch ρ x <;> rfl
def kCall3 (F : Ifc) (f : Str) : List Opd → Den RV := fun os ρ => callF F f os ρ
theorem kCall3_s {f : Str} {os : List Opd} : kCall3 F f os ρ = callF F f os ρ := rfl
def kCall2 (F : Ifc) (f : Str) (ks : List Str) (os : List Opd) : List D → Den RV := fun ws ρ => (Res.of (arrange (F.pars f) ((F.dfl f).map .v) os ks (ws.map .v)) ρ).bind (kCall3 F f)
theorem kCall2_s {f : Str} {ks : List Str} {os : List Opd} {ws : List D} : kCall2 F f ks os ws ρ = (Res.of (arrange (F.pars f) ((F.dfl f).map .v) os ks (ws.map .v)) ρ).bind (kCall3 F f) := rfl
def kCall (F : Ifc) (f : Str) (ks : List Str) (ws : List E) : List Opd → Den RV := fun os ρ => (vVs (denL F ws) ρ).bind (kCall2 F f ks os)
theorem kCall_s {f : Str} {ks : List Str} {ws : List E} {os : List Opd} : kCall F f ks ws os ρ = (vVs (denL F ws) ρ).bind (kCall2 F f ks os) := rfl
theorem ev_call {f : Str} {as : List E} {ks : List Str} {ws : List E} : denE F (.call f as ks ws) ρ = (vAs (F.ino f) as (denL F as) ρ).bind (kCall F f ks ws) := rfl
def giveE (os : List Opd) (bs : List Bool) (outs : List D) (r : RV) (ρ : Env) : Option Env → Res RV
  | some ρ' => .ok r ρ'
  | none => .bad
def giveX (c : Str) (pl : List D) : Option Env → Res RV
  | some ρ' => .ex c pl ρ'
  | none => .bad
theorem giveE_s {os : List Opd} {bs : List Bool} {outs : List D} {r : RV} {ρ' : Env} : giveE os bs outs r ρ (some ρ') = .ok r ρ' := rfl
theorem giveX_s {c : Str} {pl : List D} {ρ' : Env} : giveX c pl (some ρ') = .ex c pl ρ' := rfl
def callR (bs : List Bool) (os : List Opd) (ρ : Env) : CRes → Res RV
  | .ok r outs => giveE os bs outs r ρ (giveBack os bs outs ρ)
  | .ex c pl outs => giveX c pl (giveBack os bs outs ρ)
  | .bad => .bad
theorem callR_ok {bs : List Bool} {os : List Opd} {r : RV} {outs : List D} : callR bs os ρ (.ok r outs) = giveE os bs outs r ρ (giveBack os bs outs ρ) := rfl
theorem callR_ex {bs : List Bool} {os : List Opd} {c : Str} {pl : List D} {outs : List D} : callR bs os ρ (.ex c pl outs) = giveX c pl (giveBack os bs outs ρ) := rfl
def callD (F : Ifc) (f : Str) (os : List Opd) (ρ : Env) : Option (List D) → Res RV
  | some ds => callR (F.ino f) os ρ (F.call f ds)
  | none => .bad
theorem callD_s {f : Str} {os : List Opd} {ds : List D} : callD F f os ρ (some ds) = callR (F.ino f) os ρ (F.call f ds) := rfl
theorem callF_s {f : Str} {os : List Opd} (h : lentOk ρ os (F.ino f) [] = true) : callF F f os ρ = callD F f os ρ (fetchAll ρ os) := by
  unfold callF
  rw [if_pos h]
  cases fetchAll ρ os with
  | none => rfl
  | some ds =>
    show _ = callR (F.ino f) os ρ (F.call f ds)
    dsimp only
    cases F.call f ds with
    | ok r outs =>
      rw [callR_ok]
      dsimp only
      cases giveBack os (F.ino f) outs ρ <;> rfl
    | ex c pl outs =>
      rw [callR_ex]
      dsimp only
      cases giveBack os (F.ino f) outs ρ <;> rfl
    | bad => rfl
theorem give_nil : giveBack [] [] [] ρ = some ρ := rfl
theorem give_f {o : Opd} {os : List Opd} {bs : List Bool} {ds : List D} : giveBack (o :: os) (false :: bs) ds ρ = giveBack os bs ds ρ := by
  cases o <;> cases ds <;> rfl
def giveK (os : List Opd) (bs : List Bool) (ds : List D) : Option Env → Option Env
  | some ρ => giveBack os bs ds ρ
  | none => none
theorem giveK_s {os : List Opd} {bs : List Bool} {ds : List D} : giveK os bs ds (some ρ) = giveBack os bs ds ρ := rfl
theorem give_t {i : Nat} {os : List Opd} {bs : List Bool} {d : D} {ds : List D} : giveBack (.sl i :: os) (true :: bs) (d :: ds) ρ = giveK os bs ds (changeS ρ[i]? i d ρ) := by
  show (change i d ρ).bind _ = _
  rw [change_s]
  cases changeS ρ[i]? i d ρ <;> rfl
theorem lent_nil {s : List Nat} : lentOk ρ [] [] s = true := rfl
theorem lent_f {d : D} {os : List Opd} {bs : List Bool} {s : List Nat} : lentOk ρ (.v d :: os) (false :: bs) s = lentOk ρ os bs s := rfl
def lentT (i : Nat) (s : List Nat) (k : Bool) : Option D → Bool
  | some _ => !s.contains i && k
  | none => false
theorem lent_t {i : Nat} {os : List Opd} {bs : List Bool} {s : List Nat} : lentOk ρ (.sl i :: os) (true :: bs) s = lentT i s (lentOk ρ os bs (i :: s)) (ownedS ρ[i]?) := by
  show ((owned i ρ).isSome && !s.contains i && _) = _
  rw [owned_s]
  cases ownedS ρ[i]? <;> rfl
theorem lentT_nil {i : Nat} {k : Bool} {d : D} : lentT i [] k (some d) = k := rfl
theorem lentT_s {i : Nat} {s : List Nat} {k : Bool} {d : D} : lentT i s k (some d) = (!s.contains i && k) := rfl
def kCv2 (F : Ifc) (f : Str) : List D → Den RV := fun ds ρ => (Res.of (arrange (F.pars f) ((F.dfl f).map .v) (ds.map .v) [] []) ρ).bind (kCall3 F f)
theorem kCv2_s {f : Str} {ds : List D} : kCv2 F f ds ρ = (Res.of (arrange (F.pars f) ((F.dfl f).map .v) (ds.map .v) [] []) ρ).bind (kCall3 F f) := rfl
def callvS (F : Ifc) (fs : List Str) (as : List E) (ρ : Env) : Option D → Res RV
  | some (.fn f) => if fs.contains f = false then .bad else (vVs (denL F as) ρ).bind (kCv2 F f)
  | _ => .bad
theorem callvS_s {fs : List Str} {as : List E} {f : Str} : callvS F fs as ρ (some (.fn f)) = if fs.contains f = false then .bad else (vVs (denL F as) ρ).bind (kCv2 F f) := rfl
theorem ev_callv {i : Nat} {fs : List Str} {as : List E} : denE F (.callv i fs as) ρ = callvS F fs as ρ (lookS ρ[i]?) := by
  rw [denE]
  dsimp only
  rw [look_s]
  cases lookS ρ[i]? with
  | none => rfl
  | some d => cases d <;> rfl
def biO (F : Ifc) (b : BI) : Option (List D) → Option RV
  | some ds => bi F b ds
  | none => none
theorem biO_s {b : BI} {ds : List D} : biO F b (some ds) = bi F b ds := rfl
def kBi (F : Ifc) (b : BI) : List Opd → Den RV := fun os ρ => Res.of (biO F b (fetchAll ρ os)) ρ
theorem kBi_s {b : BI} {os : List Opd} : kBi F b os ρ = Res.of (biO F b (fetchAll ρ os)) ρ := rfl
theorem ev_bi {b : BI} {as : List E} : denE F (.bi b as) ρ = (vOs as (denL F as) ρ).bind (kBi F b) := by
  rw [denE]
  dsimp only
  congr 1
  funext os ρ
  rw [kBi_s]
  congr 1
  cases fetchAll ρ os <;> rfl
def lstO : Option (List D) → Option RV
  | some xs => some (.val (.lst xs))
  | none => none
theorem lstO_s {xs : List D} : lstO (some xs) = some (.val (.lst xs)) := rfl
def kRange : List D → Den RV := fun ds ρ => Res.of (lstO (rangeD ds)) ρ
theorem kRange_s {ds : List D} : kRange ds ρ = Res.of (lstO (rangeD ds)) ρ := rfl
theorem ev_range {es : List E} : denE F (.range es) ρ = (vVs (denL F es) ρ).bind kRange := by
  rw [denE]
  dsimp only
  congr 1
  funext ds ρ
  rw [kRange_s]
  congr 1
  cases rangeD ds <;> rfl
def enumO : Option (List D) → Option RV
  | some xs => some (.val (.lst (enumD xs)))
  | none => none
theorem enumO_s {xs : List D} : enumO (some xs) = some (.val (.lst (enumD xs))) := rfl
def kEnum : Opd → Den RV := fun o ρ => Res.of (enumO (seqO (fetch ρ o))) ρ
theorem kEnum_s {o : Opd} : kEnum o ρ = Res.of (enumO (seqO (fetch ρ o))) ρ := rfl
theorem ev_enum {a : E} : denE F (.enum a) ρ = (vO a (denE F a) ρ).bind kEnum := by
  rw [denE]
  dsimp only
  congr 1
  funext o ρ
  rw [kEnum_s]
  congr 1
  cases fetch ρ o with
  | none => rfl
  | some d =>
    show (seqOf d).map _ = enumO (seqOf d)
    cases seqOf d <;> rfl
def zipS : Option (List D) → Option (List D) → Option RV
  | some xs, some ys => some (.val (.lst (zip2 xs ys)))
  | _, _ => none
theorem zipS_s {xs ys : List D} : zipS (some xs) (some ys) = some (.val (.lst (zip2 xs ys))) := rfl
def zipO : Option (List D) → Option RV
  | some [x, y] => zipS (seqOf x) (seqOf y)
  | _ => none
theorem zipO_s {x y : D} : zipO (some [x, y]) = zipS (seqOf x) (seqOf y) := rfl
def kZip : List Opd → Den RV := fun os ρ => Res.of (zipO (fetchAll ρ os)) ρ
theorem kZip_s {os : List Opd} : kZip os ρ = Res.of (zipO (fetchAll ρ os)) ρ := rfl
theorem ev_zip {es : List E} : denE F (.zip es) ρ = (vOs es (denL F es) ρ).bind kZip := by
  rw [denE]
  dsimp only
  congr 1
  funext os ρ
  rw [kZip_s]
  congr 1
  cases fetchAll ρ os with
  | none => rfl
  | some ds =>
    match ds with
    | [] => rfl
    | [_] => rfl
    | [x, y] =>
      show (seqOf x).bind _ = zipS (seqOf x) (seqOf y)
      cases seqOf x <;> cases seqOf y <;> rfl
    | _ :: _ :: _ :: _ => rfl
def okO (r : RV) : Option Env → Res RV
  | some ρ => .ok r ρ
  | none => .bad
theorem okO_s {r : RV} : okO r (some ρ) = .ok r ρ := rfl
theorem of_okO {r : RV} {o : Option Env} : ((Res.of o ρ).bind fun ρ' _ => Res.ok r ρ') = okO r o := by
  cases o <;> rfl
def appS (d : D) (i : Nat) (ρ : Env) : Option D → Res RV
  | some (.lst xs) => if xs.length < line then okO (.val .non) (changeS ρ[i]? i (.lst (xs ++ [d])) ρ) else .bad
  | _ => .bad
theorem appS_l {d : D} {i : Nat} {xs : List D} (h : xs.length < 16777216) : appS d i ρ (some (.lst xs)) = okO (.val .non) (changeS ρ[i]? i (.lst (xs ++ [d])) ρ) := if_pos h
def kAppend (i : Nat) : RV → Den RV := fun r ρ => appS r.d i ρ (ownedS ρ[i]?)
theorem kAppend_s {i : Nat} {r : RV} : kAppend i r ρ = appS r.d i ρ (ownedS ρ[i]?) := rfl
def appI (F : Ifc) (i : Nat) (a : E) (ρ : Env) : Option D → Res RV
  | some (.lst _) => (denE F a ρ).bind (kAppend i)
  | _ => .bad
theorem appI_s {i : Nat} {a : E} {xs : List D} : appI F i a ρ (some (.lst xs)) = (denE F a ρ).bind (kAppend i) := rfl
theorem ev_app {i : Nat} {a : E} : denE F (.app i a) ρ = appI F i a ρ (ownedS ρ[i]?) := by
  rw [denE]
  dsimp only
  rw [owned_s]
  cases ownedS ρ[i]? with
  | none => rfl
  | some d => cases d with
    | lst xs =>
      rw [appI_s]
      unfold vV
      dsimp only
      cases denE F a ρ with
      | ok r ρ1 =>
        show (match owned i ρ1 with | some (.lst xs) => _ | _ => Res.bad) = appS r.d i ρ1 (ownedS ρ1[i]?)
        rw [owned_s]
        unfold appS
        cases ownedS ρ1[i]? with
        | none => rfl
        | some d => cases d with
          | lst ys =>
            dsimp only
            rw [of_okO, change_s]
          | _ => rfl
      | ex => rfl
      | bad => rfl
    | _ => rfl
def popL (i : Nat) (xs : List D) (ρ : Env) : Option D → Res RV
  | some d => okO (.val d) (changeS ρ[i]? i (.lst xs.dropLast) ρ)
  | none => .bad
theorem popL_s {i : Nat} {xs : List D} {d : D} : popL i xs ρ (some d) = okO (.val d) (changeS ρ[i]? i (.lst xs.dropLast) ρ) := rfl
def popS (i : Nat) (ρ : Env) : Option D → Res RV
  | some (.lst xs) => popL i xs ρ xs.getLast?
  | _ => .bad
theorem popS_l {i : Nat} {xs : List D} : popS i ρ (some (.lst xs)) = popL i xs ρ xs.getLast? := rfl
theorem ev_pop {i : Nat} : denE F (.pop i) ρ = popS i ρ (ownedS ρ[i]?) := by
  rw [denE]
  dsimp only
  rw [owned_s]
  cases ownedS ρ[i]? with
  | none => rfl
  | some d => cases d with
    | lst xs =>
      rw [popS_l]
      unfold popL
      dsimp only
      cases xs.getLast? with
      | none => rfl
      | some d =>
        dsimp only
        rw [of_okO, change_s]
    | _ => rfl
def caughtR (F : Ifc) : Res RV → Res RV
  | .ok _ ρ => .ok (.val .non) ρ
  | .ex c pl ρ => if F.sub c "StepError" then .ok (.val (.exc c pl)) ρ else .bad
  | .bad => .bad
theorem ev_caught {e : E} : denE F (.caught e) ρ = caughtR F (denE F e ρ) := by
  rw [denE]
  dsimp only
  unfold caughtR
  cases denE F e ρ <;> rfl
theorem caughtR_ok {r : RV} : caughtR F (.ok r ρ) = .ok (.val .non) ρ := rfl
theorem caughtR_ex {c : Str} {pl : List D} (h : F.sub c "StepError" = true) : caughtR F (.ex c pl ρ) = .ok (.val (.exc c pl)) ρ := if_pos h
/-! ### statements -/
def S1K : Type := Env → SRes
theorem to_ok' {a : α} {f : α → Env → SRes} : (Res.ok a ρ).to f = f a ρ := rfl
theorem to_ex' {c : Str} {pl : List D} {f : α → Env → SRes} : (Res.ex c pl ρ : Res α).to f = .ex c pl ρ := rfl
theorem ofO_some : SRes.ofO (some ρ) = .nx ρ := rfl
def kSet (i : Nat) : RV → Env → SRes := fun r ρ => SRes.ofO (putS ρ[i]? i r ρ)
theorem kSet_s {i : Nat} {r : RV} : kSet i r ρ = SRes.ofO (putS ρ[i]? i r ρ) := rfl
theorem st_set {i : Nat} {e : E} : denS F (.set i e) ρ = (denE F e ρ).to (kSet i) := by
  rw [denS]
  dsimp only
  congr 1
  try (funext r ρ; rw [kSet_s, put_s])
def kPuts (ts : List Nat) : List RV → Env → SRes := fun rs ρ => SRes.ofO (puts ts rs ρ)
theorem kPuts_s {ts : List Nat} {rs : List RV} : kPuts ts rs ρ = SRes.ofO (puts ts rs ρ) := rfl
theorem st_setP {ts : List Nat} {es : List E} : denS F (.setP ts es) ρ = (vRs (denL F es) ρ).to (kPuts ts) := rfl
theorem puts_nil : puts [] [] ρ = some ρ := rfl
def putsK (is : List Nat) (rs : List RV) : Option Env → Option Env
  | some ρ => puts is rs ρ
  | none => none
theorem putsK_s {is : List Nat} {rs : List RV} : putsK is rs (some ρ) = puts is rs ρ := rfl
theorem puts_cons {i : Nat} {is : List Nat} {r : RV} {rs : List RV} : puts (i :: is) (r :: rs) ρ = putsK is rs (putS ρ[i]? i r ρ) := by
  show (put i r ρ).bind _ = _
  rw [put_s]
  cases putS ρ[i]? i r ρ <;> rfl
def setTS (ts : List Nat) (ρ : Env) : Option D → Option Env
  | some (.tup ds) => if ds.length = ts.length then puts ts (ds.map .val) ρ else none
  | _ => none
theorem setTS_t {ts : List Nat} {ds : List D} (h : ds.length = ts.length) : setTS ts ρ (some (.tup ds)) = puts ts (ds.map .val) ρ := if_pos h
def kSetT (ts : List Nat) : Opd → Env → SRes := fun o ρ => SRes.ofO (setTS ts ρ (fetch ρ o))
theorem kSetT_s {ts : List Nat} {o : Opd} : kSetT ts o ρ = SRes.ofO (setTS ts ρ (fetch ρ o)) := rfl
theorem st_setT {ts : List Nat} {e : E} : denS F (.setT ts e) ρ = (vO e (denE F e) ρ).to (kSetT ts) := by
  rw [denS]
  dsimp only
  congr 1
  funext o ρ
  rw [kSetT_s]
  congr 1
  cases fetch ρ o with
  | none => rfl
  | some d => cases d <;> rfl
def storO (k d : D) : Option D → Option D
  | some c => store c k d
  | none => none
theorem storO_s {k d c : D} : storO k d (some c) = store c k d := rfl
def chgO (i : Nat) (ρ : Env) : Option D → Option Env
  | some c => changeS ρ[i]? i c ρ
  | none => none
theorem chgO_s {i : Nat} {c : D} : chgO i ρ (some c) = changeS ρ[i]? i c ρ := rfl
theorem storeE_s {i : Nat} {k d : D} : storeE i k d ρ = SRes.ofO (chgO i ρ (storO k d (ownedS ρ[i]?))) := by
  unfold storeE
  rw [owned_s]
  congr 1
  cases ownedS ρ[i]? with
  | none => rfl
  | some c =>
    show (store c k d).bind _ = chgO i ρ (store c k d)
    cases store c k d with
    | none => rfl
    | some c' => exact change_s
def kSeti3 (i : Nat) (d : D) : RV → Env → SRes := fun k ρ => storeE i k.d d ρ
theorem kSeti3_s {i : Nat} {d : D} {k : RV} : kSeti3 i d k ρ = storeE i k.d d ρ := rfl
def seti2 (F : Ifc) (i : Nat) (k : E) (d : D) (ρ : Env) : Option D → SRes
  | some _ => (denE F k ρ).to (kSeti3 i d)
  | none => .bad
theorem seti2_s {i : Nat} {k : E} {d c : D} : seti2 F i k d ρ (some c) = (denE F k ρ).to (kSeti3 i d) := rfl
def kSeti (F : Ifc) (i : Nat) (k : E) : RV → Env → SRes := fun d ρ => seti2 F i k d.d ρ (ownedS ρ[i]?)
theorem kSeti_s {i : Nat} {k : E} {d : RV} : kSeti F i k d ρ = seti2 F i k d.d ρ (ownedS ρ[i]?) := rfl
theorem st_seti {i : Nat} {k e : E} : denS F (.seti i k e) ρ = (denE F e ρ).to (kSeti F i k) := by
  rw [denS]
  dsimp only
  unfold vV
  cases denE F e ρ with
  | ok r ρ1 =>
    show (if (owned i ρ1).isSome then _ else _) = kSeti F i k r ρ1
    rw [kSeti_s, owned_s]
    cases ownedS ρ1[i]? with
    | none => rfl
    | some c =>
      rw [seti2_s]
      show ((denE F k ρ1).bind _).to _ = _
      cases denE F k ρ1 <;> rfl
  | ex => rfl
  | bad => rfl
def augS (o : Op2) (i : Nat) (a : Int) (ρ : Env) : D → SRes
  | .int b => (match o with | .add => SRes.ofO (putS ρ[i]? i (.val (.int (a + b))) ρ) | .sub => SRes.ofO (putS ρ[i]? i (.val (.int (a - b))) ρ) | _ => .bad)
  | _ => .bad
theorem augS_add {i : Nat} {a b : Int} : augS .add i a ρ (.int b) = SRes.ofO (putS ρ[i]? i (.val (.int (a + b))) ρ) := rfl
theorem augS_sub {i : Nat} {a b : Int} : augS .sub i a ρ (.int b) = SRes.ofO (putS ρ[i]? i (.val (.int (a - b))) ρ) := rfl
def kAug (o : Op2) (i : Nat) (a : Int) : RV → Env → SRes := fun r ρ => augS o i a ρ r.d
theorem kAug_s {o : Op2} {i : Nat} {a : Int} {r : RV} : kAug o i a r ρ = augS o i a ρ r.d := rfl
def augL (F : Ifc) (o : Op2) (i : Nat) (e : E) (ρ : Env) : Option D → SRes
  | some (.int a) => (denE F e ρ).to (kAug o i a)
  | _ => .bad
theorem augL_s {o : Op2} {i : Nat} {e : E} {a : Int} : augL F o i e ρ (some (.int a)) = (denE F e ρ).to (kAug o i a) := rfl
theorem st_aug {i : Nat} {o : Op2} {e : E} : denS F (.aug i o e) ρ = augL F o i e ρ (lookS ρ[i]?) := by
  rw [denS]
  dsimp only
  rw [look_s]
  cases lookS ρ[i]? with
  | none => rfl
  | some d => cases d with
    | int a =>
      rw [augL_s]
      unfold vV
      dsimp only
      cases denE F e ρ with
      | ok r ρ1 =>
        show (match r.d with | .int b => _ | _ => SRes.bad) = augS o i a ρ1 r.d
        unfold augS
        cases r.d with
        | int b => cases o <;> simp only [put_s]
        | _ => rfl
      | ex => rfl
      | bad => rfl
    | _ => rfl
def kNx : RV → Env → SRes := fun _ ρ => .nx ρ
theorem kNx_s {r : RV} : kNx r ρ = .nx ρ := rfl
theorem st_expr {e : E} : denS F (.expr e) ρ = (denE F e ρ).to kNx := rfl
def retS (i : Nat) (ρ : Env) : Option Slot → SRes
  | some (.own d) => .rt (.own d) (ρ.set i .no)
  | some (.val d) => .rt (.val d) ρ
  | _ => .bad
theorem retS_own {i : Nat} {d : D} : retS i ρ (some (.own d)) = .rt (.own d) (ρ.set i .no) := rfl
theorem retS_val {i : Nat} {d : D} : retS i ρ (some (.val d)) = .rt (.val d) ρ := rfl
def kRt : RV → Env → SRes := fun r ρ => .rt r ρ
theorem kRt_s {r : RV} : kRt r ρ = .rt r ρ := rfl
def retE (F : Ifc) : E → Env → SRes
  | .slot i => fun ρ => retS i ρ ρ[i]?
  | e => fun ρ => (denE F e ρ).to kRt
theorem retE_slot {i : Nat} : retE F (.slot i) ρ = retS i ρ ρ[i]? := rfl
theorem retE_ns {e : E} (h : isSlot e = false) : retE F e ρ = (denE F e ρ).to kRt := by
  cases e <;> first | rfl | cases h
theorem st_ret {e : E} : denS F (.ret e) ρ = retE F e ρ := by
  cases e with
  | slot i =>
    rw [denS]
    rw [retE_slot]
    unfold retS
    dsimp only
    all_goals (
      cases ρ[i]? with
      | none => rfl
      | some s => cases s <;> rfl)
  | _ => rfl
theorem isSlot_lit {d : D} : isSlot (.lit d) = false := rfl
theorem isSlot_glob {x : Str} : isSlot (.glob x) = false := rfl
theorem isSlot_op {o : Op2} {a b : E} : isSlot (.op o a b) = false := rfl
theorem isSlot_neg {a : E} : isSlot (.neg a) = false := rfl
theorem isSlot_not {a : E} : isSlot (.notE a) = false := rfl
theorem isSlot_and {a b : E} : isSlot (.andE a b) = false := rfl
theorem isSlot_or {a b : E} : isSlot (.orE a b) = false := rfl
theorem isSlot_cmp {c : CmpO} {a b : E} : isSlot (.cmp c a b) = false := rfl
theorem isSlot_chain {c c' : CmpO} {a b d : E} : isSlot (.chain c c' a b d) = false := rfl
theorem isSlot_ite {a b c : E} : isSlot (.ite a b c) = false := rfl
theorem isSlot_tup {st : List Bool} {es : List E} : isSlot (.tup st es) = false := rfl
theorem isSlot_lst {st : List Bool} {es : List E} : isSlot (.lst st es) = false := rfl
theorem isSlot_dict {ks vs : List E} : isSlot (.dict ks vs) = false := rfl
theorem isSlot_idx {a b : E} : isSlot (.idx a b) = false := rfl
theorem isSlot_slice {a b c : E} : isSlot (.slice a b c) = false := rfl
theorem isSlot_rev {a : E} : isSlot (.rev a) = false := rfl
theorem isSlot_call {x : Str} {as ws : List E} {ks : List Str} : isSlot (.call x as ks ws) = false := rfl
theorem isSlot_bi {b : BI} {as : List E} : isSlot (.bi b as) = false := rfl
theorem isSlot_comp {own : List Nat} {tg : Tg} {it : E} {ifs : List E} {elt : E} : isSlot (.comp own tg it ifs elt) = false := rfl
theorem isSlot_comp2 {own own2 : List Nat} {tg tg2 : Tg} {it it2 : E} {ifs ifs2 : List E} {elt : E} : isSlot (.comp2 own own2 tg it ifs tg2 it2 ifs2 elt) = false := rfl
theorem st_retN : denS F .retN ρ = .rt (.val .non) ρ := rfl
def kIf (F : Ifc) (a b : List S) : Bool → Env → SRes
  | true => denB F a
  | false => denB F b
theorem kIf_t {a b : List S} : kIf F a b true ρ = denB F a ρ := rfl
theorem kIf_f {a b : List S} : kIf F a b false ρ = denB F b ρ := rfl
theorem st_ifs {c : E} {a b : List S} : denS F (.ifs c a b) ρ = (vT c (denE F c) ρ).to (kIf F a b) := by
  rw [denS]
  dsimp only
  congr 1
  funext k ρ
  cases k <;> rfl
def kRaise (x : Str) : List D → Env → SRes := fun ds ρ => if x = "TooMany" then .ex x ds ρ else .ex x [] ρ
theorem kRaise_n {x : Str} {ds : List D} (h : x ≠ "TooMany") : kRaise x ds ρ = .ex x [] ρ := if_neg h
theorem kRaise_t {ds : List D} : kRaise "TooMany" ds ρ = .ex "TooMany" ds ρ := if_pos rfl
theorem st_raise {x : Str} {as : List E} : denS F (.raise x as) ρ = (vVs (denL F as) ρ).to (kRaise x) := rfl
theorem st_brk : denS F .brk ρ = .bk ρ := rfl
theorem st_cont : denS F .cont ρ = .ct ρ := rfl
theorem st_pass : denS F .pass ρ = .nx ρ := rfl
theorem st_nil : denB F [] ρ = .nx ρ := rfl
theorem st_cons {s : S} {ss : List S} : denB F (s :: ss) ρ = (denS F s ρ).then (denB F ss) := rfl
theorem then_nx' {f : Env → SRes} : (SRes.nx ρ).then f = f ρ := rfl
theorem then_rt' {r : RV} {f : Env → SRes} : (SRes.rt r ρ).then f = .rt r ρ := rfl
theorem then_bk' {f : Env → SRes} : (SRes.bk ρ).then f = .bk ρ := rfl
theorem then_ct' {f : Env → SRes} : (SRes.ct ρ).then f = .ct ρ := rfl
theorem then_ex' {c : Str} {pl : List D} {f : Env → SRes} : (SRes.ex c pl ρ).then f = .ex c pl ρ := rfl
/-- one turn of a for -/
def turnS (F : Ifc) (tg : Tg) (body : List S) : D → Env → SRes := fun x ρ => (SRes.ofO (asg tg x ρ)).then (denB F body)
theorem turnS_s {tg : Tg} {body : List S} {x : D} : turnS F tg body x ρ = (SRes.ofO (asg tg x ρ)).then (denB F body) := rfl
def forEnd (ρ : Env) (is : List Nat) : SRes → SRes
  | .nx ρ' => .nx (unlock ρ is ρ')
  | .bk ρ' => .nx (unlock ρ is ρ')
  | .rt r ρ' => .rt r (unlock ρ is ρ')
  | .ex c pl ρ' => .ex c pl (unlock ρ is ρ')
  | _ => .bad
theorem forEnd_nx {is : List Nat} {ρ' : Env} : forEnd ρ is (.nx ρ') = .nx (unlock ρ is ρ') := rfl
theorem forEnd_bk {is : List Nat} {ρ' : Env} : forEnd ρ is (.bk ρ') = .nx (unlock ρ is ρ') := rfl
theorem forEnd_rt {is : List Nat} {r : RV} {ρ' : Env} : forEnd ρ is (.rt r ρ') = .rt r (unlock ρ is ρ') := rfl
theorem forEnd_ex {is : List Nat} {c : Str} {pl : List D} {ρ' : Env} : forEnd ρ is (.ex c pl ρ') = .ex c pl (unlock ρ is ρ') := rfl
def kFor (F : Ifc) (tg : Tg) (body : List S) (is : List Nat) : List D → Env → SRes := fun xs ρ => forEnd ρ is (loop (turnS F tg body) xs (lock is ρ))
theorem kFor_s {tg : Tg} {body : List S} {is : List Nat} {xs : List D} : kFor F tg body is xs ρ = forEnd ρ is (loop (turnS F tg body) xs (lock is ρ)) := rfl
theorem st_for {tg : Tg} {it : E} {body : List S} : denS F (.forS tg it body) ρ = (vIt it (denE F it) ρ).to (kFor F tg body (walked it)) := by
  rw [denS]
  dsimp only
  congr 1
theorem st_whl {c : E} {body : List S} : denS F (.whl c body) ρ = whileL (vT c (denE F c)) (denB F body) F.fuel ρ := rfl
theorem loop_nil {st : D → Env → SRes} : loop st [] ρ = .nx ρ := rfl
def loopK (st : D → Env → SRes) (xs : List D) : SRes → SRes
  | .nx ρ => loop st xs ρ
  | .ct ρ => loop st xs ρ
  | .bk ρ => .bk ρ
  | r => r
theorem loop_cons {st : D → Env → SRes} {x : D} {xs : List D} : loop st (x :: xs) ρ = loopK st xs (st x ρ) := by
  rw [loop]
  unfold loopK
  split <;> simp_all
theorem loopK_nx {st : D → Env → SRes} {xs : List D} : loopK st xs (.nx ρ) = loop st xs ρ := rfl
theorem loopK_ct {st : D → Env → SRes} {xs : List D} : loopK st xs (.ct ρ) = loop st xs ρ := rfl
theorem loopK_bk {st : D → Env → SRes} {xs : List D} : loopK st xs (.bk ρ) = .bk ρ := rfl
theorem loopK_rt {st : D → Env → SRes} {xs : List D} {r : RV} : loopK st xs (.rt r ρ) = .rt r ρ := rfl
theorem loopK_ex {st : D → Env → SRes} {xs : List D} {c : Str} {pl : List D} : loopK st xs (.ex c pl ρ) = .ex c pl ρ := rfl
/-! locks -/
def lockS (i : Nat) (ρ : Env) : Option Slot → Env
  | some (.own d) => ρ.set i (.lk d)
  | some (.ref d) => ρ.set i (.lk d)
  | _ => ρ
theorem lock1_s {i : Nat} : lock1 i ρ = lockS i ρ ρ[i]? := by
  unfold lock1 lockS
  cases ρ[i]? with
  | none => rfl
  | some s => cases s <;> rfl
theorem lockS_own {i : Nat} {d : D} : lockS i ρ (some (.own d)) = ρ.set i (.lk d) := rfl
theorem lockS_ref {i : Nat} {d : D} : lockS i ρ (some (.ref d)) = ρ.set i (.lk d) := rfl
theorem lockS_val {i : Nat} {d : D} : lockS i ρ (some (.val d)) = ρ := rfl
theorem lockS_lk {i : Nat} {d : D} : lockS i ρ (some (.lk d)) = ρ := rfl
theorem lock_nil : lock [] ρ = ρ := rfl
theorem lock_cons {i : Nat} {is : List Nat} : lock (i :: is) ρ = lockS i (lock is ρ) (lock is ρ)[i]? := by
  show lock1 i (lock is ρ) = _
  rw [lock1_s]
def unlockS (i : Nat) (ρ : Env) : Option Slot → Env
  | some (.own d) => ρ.set i (.own d)
  | some (.ref d) => ρ.set i (.ref d)
  | _ => ρ
theorem unlock1_s {ρ₀ : Env} {i : Nat} : unlock1 ρ₀ i ρ = unlockS i ρ ρ₀[i]? := by
  unfold unlock1 unlockS
  cases ρ₀[i]? with
  | none => rfl
  | some s => cases s <;> rfl
theorem unlockS_own {i : Nat} {d : D} : unlockS i ρ (some (.own d)) = ρ.set i (.own d) := rfl
theorem unlockS_ref {i : Nat} {d : D} : unlockS i ρ (some (.ref d)) = ρ.set i (.ref d) := rfl
theorem unlockS_val {i : Nat} {d : D} : unlockS i ρ (some (.val d)) = ρ := rfl
theorem unlockS_lk {i : Nat} {d : D} : unlockS i ρ (some (.lk d)) = ρ := rfl
theorem unlock_nil {ρ₀ : Env} : unlock ρ₀ [] ρ = ρ := rfl
theorem unlock_cons {ρ₀ : Env} {i : Nat} {is : List Nat} : unlock ρ₀ (i :: is) ρ = unlockS i (unlock ρ₀ is ρ) ρ₀[i]? := by
  show unlock1 ρ₀ i (unlock ρ₀ is ρ) = _
  rw [unlock1_s]
theorem walked_slot {i : Nat} : walked (.slot i) = [i] := rfl
theorem walked_range {es : List E} : walked (.range es) = [] := rfl
theorem walked_call {x : Str} {as ws : List E} {ks : List Str} : walked (.call x as ks ws) = [] := rfl
theorem walked_lst {st : List Bool} {es : List E} : walked (.lst st es) = [] := rfl
theorem walked_tup {st : List Bool} {es : List E} : walked (.tup st es) = [] := rfl
theorem walked_op {o : Op2} {a b : E} : walked (.op o a b) = [] := rfl
theorem walked_rev {a : E} : walked (.rev a) = [] := rfl
theorem walked_slice {a b c : E} : walked (.slice a b c) = [] := rfl
theorem walked_idx {a b : E} : walked (.idx a b) = [] := rfl
theorem walked_bi {b : BI} {as : List E} : walked (.bi b as) = [] := rfl
theorem walked_comp {own : List Nat} {tg : Tg} {it : E} {ifs : List E} {elt : E} : walked (.comp own tg it ifs elt) = [] := rfl
theorem walked_comp2 {own own2 : List Nat} {tg tg2 : Tg} {it it2 : E} {ifs ifs2 : List E} {elt : E} : walked (.comp2 own own2 tg it ifs tg2 it2 ifs2 elt) = [] := rfl
/-! values -/
theorem tru_non : D.tru .non = some false := rfl
theorem tru_bl {b : Bool} : D.tru (.bl b) = some b := rfl
theorem tru_int {i : Int} : D.tru (.int i) = some (i != 0) := rfl
theorem tru_tup {xs : List D} : D.tru (.tup xs) = some (!xs.isEmpty) := rfl
theorem tru_lst {xs : List D} : D.tru (.lst xs) = some (!xs.isEmpty) := rfl
theorem op_add {a b : Int} : op2 .add (.int a) (.int b) = some (.val (.int (a + b))) := rfl
theorem op_sub {a b : Int} : op2 .sub (.int a) (.int b) = some (.val (.int (a - b))) := rfl
theorem op_addT {xs ys : List D} (h : xs.length + ys.length ≤ 16777216) : op2 .add (.tup xs) (.tup ys) = some (.val (.tup (xs ++ ys))) := if_pos h
theorem op_addL {xs ys : List D} (h : xs.length + ys.length ≤ 16777216) : op2 .add (.lst xs) (.lst ys) = some (.own (.lst (xs ++ ys))) := if_pos h
theorem op_mul {a b : Int} (h : mulOk a b = true) : op2 .mul (.int a) (.int b) = some (.val (.int (a * b))) := if_pos h
theorem op_mulT {xs : List D} {k : Int} (h : k ≤ 1000 ∧ -1000 ≤ k ∧ xs.length ≤ 1000) : op2 .mul (.tup xs) (.int k) = some (.val (.tup (repL xs k.toNat))) := if_pos h
theorem op_mulL {xs : List D} {k : Int} (h : k ≤ 10000 ∧ -10000 ≤ k ∧ xs.length * k.toNat ≤ 16777216) : op2 .mul (.lst xs) (.int k) = some (.own (.lst (repL xs k.toNat))) := if_pos h
theorem op_fdiv {a b : Int} (h : 0 < b ∧ b.natAbs.log2 < 9000) : op2 .fdiv (.int a) (.int b) = some (.val (.int (a / b))) := if_pos h
theorem op_mod {a b : Int} (h : 0 < b) : op2 .mod (.int a) (.int b) = some (.val (.int (a % b))) := if_pos h
theorem op_pow {a b : Int} (h : 0 ≤ b ∧ b ≤ 1000000 ∧ a.natAbs < 2 ^ 64) : op2 .pow (.int a) (.int b) = some (.val (.int (a ^ b.toNat))) := if_pos h
theorem cmp_lt {a b : Int} : cmp .lt (.int a) (.int b) = some (decide (a < b)) := rfl
theorem cmp_le {a b : Int} : cmp .le (.int a) (.int b) = some (decide (a ≤ b)) := rfl
theorem cmp_gt {a b : Int} : cmp .gt (.int a) (.int b) = some (decide (b < a)) := rfl
theorem cmp_ge {a b : Int} : cmp .ge (.int a) (.int b) = some (decide (b ≤ a)) := rfl
theorem cmp_isN {a : D} : cmp .isN a .non = some a.isN := by cases a <;> rfl
theorem cmp_notN {a : D} : cmp .notN a .non = some (!a.isN) := by cases a <;> rfl
theorem eqOk_int {a : Int} : (D.int a).eqOk = true := rfl
theorem eqv_int {a b : Int} : D.eqv (.int a) (.int b) = decide (a = b) := by
  show (a == b) = _
  rfl
theorem cmp_eqI {a b : Int} : cmp .eq (.int a) (.int b) = some (decide (a = b)) := by
  show (if (D.int a).eqOk && (D.int b).eqOk then some (D.eqv (.int a) (.int b)) else none) = _
  rw [eqOk_int, eqOk_int, eqv_int]
  rfl
theorem cmp_neI {a b : Int} : cmp .ne (.int a) (.int b) = some (!decide (a = b)) := by
  show (if (D.int a).eqOk && (D.int b).eqOk then some (!D.eqv (.int a) (.int b)) else none) = _
  rw [eqOk_int, eqOk_int, eqv_int]
  rfl
theorem seqOf_tup {xs : List D} : seqOf (.tup xs) = some xs := rfl
theorem seqOf_lst {xs : List D} : seqOf (.lst xs) = some xs := rfl
theorem seqOf_scr {ns : List Int} : seqOf (.scr ns) = some (ns.map .int) := rfl
theorem seqTL_tup {xs : List D} : seqTL (.tup xs) = some xs := rfl
theorem seqTL_lst {xs : List D} : seqTL (.lst xs) = some xs := rfl
theorem slice_tup {xs : List D} {l h : Option Int} : slice (.tup xs) l h = some (.val (.tup (cut xs l h))) := rfl
theorem slice_lst {xs : List D} {l h : Option Int} : slice (.lst xs) l h = some (.own (.lst (cut xs l h))) := rfl
theorem rev_tup {xs : List D} : rev (.tup xs) = some (.val (.tup xs.reverse)) := rfl
theorem rev_lst {xs : List D} : rev (.lst xs) = some (.own (.lst xs.reverse)) := rfl
theorem idx_tup {xs : List D} {i : Int} : idx (.tup xs) (.int i) = atI xs i := rfl
theorem idx_lst {xs : List D} {i : Int} : idx (.lst xs) (.int i) = atI xs i := rfl
theorem idx_dicS {ks vs : List D} {x : Str} : idx (.dic ks vs) (.str x) = getK ks vs (.str x) := rfl
theorem bi_lenT {xs : List D} : bi F .len [.tup xs] = some (.val (.int xs.length)) := rfl
theorem bi_lenL {xs : List D} : bi F .len [.lst xs] = some (.val (.int xs.length)) := rfl
theorem bi_lenS {ns : List Int} : bi F .len [.scr ns] = some (.val (.int ns.length)) := rfl
theorem bi_lenD {ks vs : List D} : bi F .len [.dic ks vs] = some (.val (.int ks.length)) := rfl
theorem bi_isi {t : Ty} {d : D} (h : t.ok F d = true) : bi F (.isi t) [d] = some (.val (.bl (t.is F d))) := by cases d <;> exact if_pos h
theorem bi_intI {i : Int} : bi F .int [.int i] = some (.val (.int i)) := rfl
theorem bi_intB {b : Bool} : bi F .int [.bl b] = some (.val (.int (if b then 1 else 0))) := rfl
theorem bi_tupleL {xs : List D} : bi F .tuple [.lst xs] = some (.val (.tup xs)) := rfl
theorem bi_tupleT {xs : List D} : bi F .tuple [.tup xs] = some (.val (.tup xs)) := rfl
theorem bi_listL {xs : List D} : bi F .list [.lst xs] = some (.own (.lst xs)) := rfl
theorem bi_listT {xs : List D} : bi F .list [.tup xs] = some (.own (.lst xs)) := rfl
theorem bi_sorted {xs : List D} (h : sortOk xs = true) : bi F .sorted [.lst xs] = some (.own (.lst (sortD xs))) := if_pos h
def intO : Option Int → Option RV
  | some i => some (.val (.int i))
  | none => none
theorem intO_s {i : Int} : intO (some i) = some (.val (.int i)) := rfl
theorem bi_sumL {xs : List D} : bi F .sum [.lst xs] = intO (sumI xs) := by
  show (sumI xs).map _ = _
  cases sumI xs <;> rfl
theorem bi_sumT {xs : List D} : bi F .sum [.tup xs] = intO (sumI xs) := by
  show (sumI xs).map _ = _
  cases sumI xs <;> rfl
theorem bi_all {xs : List D} : bi F .all [.lst xs] = blO (allB xs) := by
  show (allB xs).map _ = _
  cases allB xs <;> rfl
theorem bi_min {a b : Int} : bi F .min [.int a, .int b] = some (.val (.int (if b < a then b else a))) := rfl
theorem bi_max {a b : Int} : bi F .max [.int a, .int b] = some (.val (.int (if b > a then b else a))) := rfl
theorem bi_abs {a : Int} : bi F .abs [.int a] = some (.val (.int (if a < 0 then -a else a))) := rfl
theorem bi_reprN : bi F .repr [.non] = some (.val (.str "None")) := rfl
theorem bi_reprB {b : Bool} : bi F .repr [.bl b] = some (.val (.str (if b then "True" else "False"))) := rfl
end Mini

/- S2 -/
set_option Elab.async false
set_option linter.all false
set_option maxRecDepth 100000
/-! S2: programs' calls, comprehensions, loops, values by encodings. -/
namespace Mini
open PySem
variable {F : Ifc} {ρ : Env} {α β : Type}
/-! ### calls of a program -/
def finF (bs : List Bool) : SRes → CRes
  | .nx ρ => (match outsOf bs ρ with | some o => .ok (.val .non) o | none => .bad)
  | .rt r ρ => (match outsOf bs ρ with | some o => .ok r o | none => .bad)
  | .ex c pl ρ => (match outsOf bs ρ with | some o => .ex c pl o | none => .bad)
  | _ => .bad
theorem runFn_s {fn : Fn} {ds : List D} (h : ds.length = fn.pars.length) : runFn F fn ds = finF fn.ino (denB F fn.body (startEnv fn ds)) := by
  unfold runFn
  rw [if_pos h]
  rfl
def okC (r : RV) : Option (List D) → CRes
  | some o => .ok r o
  | none => .bad
def exC (c : Str) (pl : List D) : Option (List D) → CRes
  | some o => .ex c pl o
  | none => .bad
theorem okC_s {r : RV} {o : List D} : okC r (some o) = .ok r o := rfl
theorem exC_s {c : Str} {pl o : List D} : exC c pl (some o) = .ex c pl o := rfl
theorem finF_nx {bs : List Bool} : finF bs (.nx ρ) = okC (.val .non) (outsOf bs ρ) := by
  unfold finF okC
  rfl
theorem finF_rt {bs : List Bool} {r : RV} : finF bs (.rt r ρ) = okC r (outsOf bs ρ) := by
  unfold finF okC
  rfl
theorem finF_ex {bs : List Bool} {c : Str} {pl : List D} : finF bs (.ex c pl ρ) = exC c pl (outsOf bs ρ) := by
  unfold finF exC
  rfl
def consD (d : D) : Option (List D) → Option (List D)
  | some ds => some (d :: ds)
  | none => none
theorem consD_s {d : D} {ds : List D} : consD d (some ds) = some (d :: ds) := rfl
theorem outs_nil {ss : List Slot} : outsOf [] ss = some [] := rfl
theorem outs_f {bs : List Bool} {s : Slot} {ss : List Slot} : outsOf (false :: bs) (s :: ss) = outsOf bs ss := rfl
theorem outs_t {bs : List Bool} {d : D} {ss : List Slot} : outsOf (true :: bs) (.ref d :: ss) = consD d (outsOf bs ss) := by
  show (outsOf bs ss).map _ = _
  cases outsOf bs ss <;> rfl
theorem call_run {P : Prog} {f : Str} {fn : Fn} (h : P.find f = some fn) {n : Nat} {ds : List D} (hl : ds.length = fn.pars.length) :
    P.call (n + 1) f ds = finF fn.ino (denB (P.ifc (P.call n)) fn.body (startEnv fn ds)) := by
  show (match P.find f with | some fn => runFn (P.ifc (P.call n)) fn ds | none => .bad) = _
  rw [h]
  exact runFn_s hl
theorem ifc_call {P : Prog} {c : Str → List D → CRes} {f : Str} {ds : List D} : (P.ifc c).call f ds = c f ds := rfl
theorem ifc_fuel {P : Prog} {c : Str → List D → CRes} : (P.ifc c).fuel = P.fuel := rfl
theorem ifc_ino {P : Prog} {c : Str → List D → CRes} {f : Str} {fn : Fn} (h : P.find f = some fn) : (P.ifc c).ino f = fn.ino := by
  show (match P.find f with | some fn => fn.ino | none => []) = _
  rw [h]
theorem ifc_pars {P : Prog} {c : Str → List D → CRes} {f : Str} {fn : Fn} (h : P.find f = some fn) : (P.ifc c).pars f = fn.pars := by
  show (match P.find f with | some fn => fn.pars | none => []) = _
  rw [h]
theorem ifc_dfl {P : Prog} {c : Str → List D → CRes} {f : Str} {fn : Fn} (h : P.find f = some fn) : (P.ifc c).dfl f = fn.dfl := by
  show (match P.find f with | some fn => fn.dfl | none => []) = _
  rw [h]
theorem ifc_glob {P : Prog} {c : Str → List D → CRes} {x : Str} {d : D} (h : P.globs.lookup x = some d) : (P.ifc c).glob x = some d := by
  show (match P.globs.lookup x with | some d => some d | none => _) = _
  rw [h]
theorem ifc_globF {P : Prog} {c : Str → List D → CRes} {x : Str} {fn : Fn} (h0 : P.globs.lookup x = none) (h : P.find x = some fn) : (P.ifc c).glob x = some (.fn x) := by
  show (match P.globs.lookup x with | some d => some d | none => (match P.find x with | some _ => some (.fn x) | none => none)) = _
  rw [h0, h]
theorem ifc_sub {P : Prog} {c : Str → List D → CRes} {a b : Str} : (P.ifc c).sub a b = P.subs.contains (a, b) := rfl
theorem map_nil' {f : α → β} : List.map f [] = [] := rfl
theorem map_cons' {f : α → β} {a : α} {l : List α} : List.map f (a :: l) = f a :: List.map f l := rfl
/-! ### positional arguments that are complete -/
theorem arr0 {ps : List Str} {dfl : List Opd} {pos : List Opd} (h : pos.length = ps.length) : arrange ps dfl pos [] [] = some pos := by
  unfold arrange
  simp [h, List.drop_length]
/-! ### comprehensions -/
def kOne : RV → Den (List D) := fun r ρ => .ok [r.d] ρ
theorem kOne_s {r : RV} : kOne r ρ = .ok [r.d] ρ := rfl
def kItem (go : Den (List D)) : Bool → Den (List D)
  | true => go
  | false => fun ρ => .ok [] ρ
theorem kItem_t {go : Den (List D)} : kItem go true ρ = go ρ := rfl
theorem kItem_f {go : Den (List D)} : kItem go false ρ = .ok [] ρ := rfl
def itemS (F : Ifc) (ifs : List E) (go : Den (List D)) : Option Env → Res (List D)
  | some ρ => (vTs ifs (denL F ifs) ρ).bind (kItem go)
  | none => .bad
theorem itemS_s {ifs : List E} {go : Den (List D)} : itemS F ifs go (some ρ) = (vTs ifs (denL F ifs) ρ).bind (kItem go) := rfl
theorem item_s {tg : Tg} {own : List Nat} {ifs : List E} {go : Den (List D)} {x : D} : item tg own ifs (denL F ifs) go x ρ = itemS F ifs go (asg tg x (wipeE ρ own)) := by
  unfold item
  cases asg tg x (wipeE ρ own) with
  | none => rfl
  | some ρ1 =>
    show (vTs ifs (denL F ifs) ρ1).bind _ = (vTs ifs (denL F ifs) ρ1).bind _
    congr 1
    funext k ρ2
    cases k <;> rfl
def goE (F : Ifc) (elt : E) : Den (List D) := fun ρ => (denE F elt ρ).bind kOne
theorem goE_s {elt : E} : goE F elt ρ = (denE F elt ρ).bind kOne := rfl
theorem goE_eq {elt : E} : (fun ρ => (vV (denE F elt) ρ).bind fun d ρ => Res.ok [d] ρ) = goE F elt := by
  funext ρ
  unfold goE vV
  cases denE F elt ρ <;> rfl
/-- one item -/
def item1 (F : Ifc) (tg : Tg) (own : List Nat) (ifs : List E) (go : Den (List D)) : D → Den (List D) := fun x ρ => itemS F ifs go (asg tg x (wipeE ρ own))
theorem item1_s {tg : Tg} {own : List Nat} {ifs : List E} {go : Den (List D)} {x : D} : item1 F tg own ifs go x ρ = itemS F ifs go (asg tg x (wipeE ρ own)) := rfl
theorem item1_eq {tg : Tg} {own : List Nat} {ifs : List E} {go : Den (List D)} : item tg own ifs (denL F ifs) go = item1 F tg own ifs go := by
  funext x ρ
  exact item_s
theorem wipe_nil : wipeE ρ [] = ρ := rfl
theorem wipe_cons {i : Nat} {is : List Nat} : wipeE ρ (i :: is) = (wipeE ρ is).set i .no := rfl
theorem wipeE_length : ∀ own : List Nat, (wipeE ρ own).length = ρ.length
  | [] => rfl
  | i :: is => by rw [wipe_cons, List.length_set, wipeE_length is]
theorem wipeE_get {ρ : Env} {k : Nat} : ∀ own : List Nat, (wipeE ρ own)[k]? = if k ∈ own ∧ k < ρ.length then some .no else ρ[k]?
  | [] => by simp [wipeE]
  | i :: is => by
    rw [wipe_cons, List.getElem?_set, wipeE_get is, wipeE_length]
    by_cases h : i = k
    · subst h
      by_cases h2 : i < ρ.length
      · simp [h2]
      · simp [h2]
    · have h' : ¬ k = i := fun e => h e.symm
      simp [h, h']
theorem wipeE_wipeE {own : List Nat} : wipeE (wipeE ρ own) own = wipeE ρ own := by
  apply List.ext_getElem?
  intro k
  rw [wipeE_get, wipeE_get, wipeE_length]
  by_cases h : k ∈ own ∧ k < ρ.length <;> simp [h]
theorem backE_length {ρ₀ : Env} : ∀ own : List Nat, (backE ρ₀ ρ own).length = ρ.length
  | [] => rfl
  | i :: is => by
    show ((backE ρ₀ ρ is).set i _).length = _
    rw [List.length_set, backE_length is]
theorem backE_get {ρ₀ : Env} {k : Nat} : ∀ own : List Nat, (backE ρ₀ ρ own)[k]? = if k ∈ own ∧ k < ρ.length then some (ρ₀[k]?.getD .no) else ρ[k]?
  | [] => by simp [backE]
  | i :: is => by
    show ((backE ρ₀ ρ is).set i (ρ₀[i]?.getD .no))[k]? = _
    rw [List.getElem?_set, backE_get is, backE_length]
    by_cases h : i = k
    · subst h
      by_cases h2 : i < ρ.length
      · simp [h2]
      · simp [h2]
    · have h' : ¬ k = i := fun e => h e.symm
      simp [h, h']
def lkS : Slot → Slot
  | .own d => .lk d
  | .ref d => .lk d
  | s => s
theorem lock1_getS {i k : Nat} : (lock1 i ρ)[k]? = if k = i then (ρ[k]?).map lkS else ρ[k]? := by
  rw [lock1_s]
  by_cases h : k = i
  · subst h
    rw [if_pos rfl]
    cases e : ρ[k]? with
    | none => exact e
    | some s =>
      have hl : k < ρ.length := (List.getElem?_eq_some_iff.mp e).1
      cases s with
      | own d => rw [lockS_own, List.getElem?_set_self hl]; rfl
      | ref d => rw [lockS_ref, List.getElem?_set_self hl]; rfl
      | no => exact e
      | val d => exact e
      | lk d => exact e
  · rw [if_neg h]
    cases ρ[i]? with
    | none => rfl
    | some s => cases s with
      | own d => rw [lockS_own, List.getElem?_set_ne (Ne.symm h)]
      | ref d => rw [lockS_ref, List.getElem?_set_ne (Ne.symm h)]
      | _ => rfl
theorem lock1_length {i : Nat} : (lock1 i ρ).length = ρ.length := by
  unfold lock1
  split <;> simp
theorem lock_length : ∀ is : List Nat, (lock is ρ).length = ρ.length
  | [] => rfl
  | i :: is => by
    show (lock1 i (lock is ρ)).length = _
    rw [lock1_length, lock_length is]
theorem lkS_lkS {s : Slot} : lkS (lkS s) = lkS s := by cases s <;> rfl
theorem lock_getS {k : Nat} : ∀ is : List Nat, (lock is ρ)[k]? = if k ∈ is then (ρ[k]?).map lkS else ρ[k]?
  | [] => by simp [lock]
  | i :: is => by
    show (lock1 i (lock is ρ))[k]? = _
    rw [lock1_getS, lock_getS is]
    by_cases h : k = i
    · subst h
      by_cases h2 : k ∈ is
      · simp [h2, Function.comp_def, lkS_lkS]
      · simp [h2]
    · simp [h]
def isLk : Option Slot → Bool
  | some (.own _) => true
  | some (.ref _) => true
  | _ => false
theorem unlock1_getS {ρ₀ : Env} {i k : Nat} : (unlock1 ρ₀ i ρ)[k]? = if k = i ∧ k < ρ.length ∧ isLk ρ₀[k]? = true then ρ₀[k]? else ρ[k]? := by
  rw [unlock1_s]
  by_cases h : k = i
  · subst h
    by_cases hl : k < ρ.length
    · cases e : ρ₀[k]? with
      | none => rw [if_neg (fun q => Bool.noConfusion q.2.2)]; rfl
      | some s =>
        cases s with
        | own d => rw [unlockS_own, List.getElem?_set_self hl, if_pos ⟨rfl, hl, rfl⟩]
        | ref d => rw [unlockS_ref, List.getElem?_set_self hl, if_pos ⟨rfl, hl, rfl⟩]
        | no => rw [if_neg (fun q => Bool.noConfusion q.2.2)]; rfl
        | val d => rw [if_neg (fun q => Bool.noConfusion q.2.2)]; rfl
        | lk d => rw [if_neg (fun q => Bool.noConfusion q.2.2)]; rfl
    · rw [if_neg (fun q => hl q.2.1)]
      have e1 : ∀ x : Slot, (ρ.set k x)[k]? = ρ[k]? := fun x => by
        rw [List.getElem?_eq_none (by rw [List.length_set]; omega), List.getElem?_eq_none (by omega)]
      cases ρ₀[k]? with
      | none => rfl
      | some s => cases s with
        | own d => exact e1 _
        | ref d => exact e1 _
        | _ => rfl
  · rw [if_neg (fun q => h q.1)]
    cases ρ₀[i]? with
    | none => rfl
    | some s => cases s with
      | own d => rw [unlockS_own, List.getElem?_set_ne (Ne.symm h)]
      | ref d => rw [unlockS_ref, List.getElem?_set_ne (Ne.symm h)]
      | _ => rfl
theorem unlock1_length {ρ₀ : Env} {i : Nat} : (unlock1 ρ₀ i ρ).length = ρ.length := by
  unfold unlock1
  split <;> simp
theorem unlock_length {ρ₀ : Env} : ∀ is : List Nat, (unlock ρ₀ is ρ).length = ρ.length
  | [] => rfl
  | i :: is => by
    show (unlock1 ρ₀ i (unlock ρ₀ is ρ)).length = _
    rw [unlock1_length, unlock_length is]
theorem unlock_getS {ρ₀ : Env} {k : Nat} : ∀ is : List Nat, (unlock ρ₀ is ρ)[k]? = if k ∈ is ∧ k < ρ.length ∧ isLk ρ₀[k]? = true then ρ₀[k]? else ρ[k]?
  | [] => by simp [unlock]
  | i :: is => by
    show (unlock1 ρ₀ i (unlock ρ₀ is ρ))[k]? = _
    rw [unlock1_getS, unlock_getS is, unlock_length]
    by_cases h : k = i
    · subst h
      by_cases h2 : k < ρ.length ∧ isLk ρ₀[k]? = true
      · rw [if_pos ⟨rfl, h2⟩, if_pos ⟨by simp, h2⟩]
      · rw [if_neg (fun q => h2 q.2), if_neg (fun q => h2 q.2), if_neg (fun q => h2 q.2)]
    · rw [if_neg (fun q => h q.1)]
      simp [h]
theorem back_all {σ : Env} {own w : List Nat} (hb : blockOk ρ own = true) (hw : wipeE σ own = wipeE (lock w ρ) own) : unlock ρ w (backE ρ σ own) = ρ := by
  have hl : σ.length = ρ.length := by rw [← wipeE_length (ρ := σ) own, hw, wipeE_length, lock_length]
  apply List.ext_getElem?
  intro k
  rw [unlock_getS, backE_length, hl]
  split
  · rfl
  · rename_i h
    rw [backE_get, hl]
    by_cases ho : k ∈ own ∧ k < ρ.length
    · rw [if_pos ho]
      have := ho.2
      simp [this]
    · rw [if_neg ho]
      have e : (wipeE σ own)[k]? = (wipeE (lock w ρ) own)[k]? := by rw [hw]
      rw [wipeE_get, wipeE_get, lock_length, if_neg (by rw [hl]; exact ho), if_neg ho, lock_getS] at e
      rw [e]
      by_cases h2 : k ∈ w
      · rw [if_pos h2]
        cases q : ρ[k]? with
        | none => rfl
        | some s =>
          have hk : k < ρ.length := (List.getElem?_eq_some_iff.mp q).1
          cases s with
          | own d => exact absurd ⟨h2, hk, by rw [q]; rfl⟩ h
          | ref d => exact absurd ⟨h2, hk, by rw [q]; rfl⟩ h
          | _ => rfl
      · rw [if_neg h2]
/-- a part of a block that leaves all names but the block's own as they were -/
def okW (own : List Nat) (ρ₀ : Env) (r : Res (List D)) (ys : List D) : Prop := match r with
  | .ok zs ρ => zs = ys ∧ wipeE ρ own = wipeE ρ₀ own
  | _ => False
theorem okW_ok {own : List Nat} {ρ₀ : Env} {zs ys : List D} : okW own ρ₀ (.ok zs ρ) ys = (zs = ys ∧ wipeE ρ own = wipeE ρ₀ own) := rfl
theorem turns_ok {e : α → D} {tg : Tg} {own : List Nat} {ifs : List E} {go : Den (List D)} {ρ₀ : Env} (ys : α → List D) : ∀ (l : List α) (ρ : Env), wipeE ρ own = wipeE ρ₀ own →
    (∀ x ∈ l, okW own ρ₀ (item1 F tg own ifs go (e x) ρ₀) (ys x)) → ∃ ρ', turns (item1 F tg own ifs go) (l.map e) ρ = .ok (l.flatMap ys) ρ' ∧ wipeE ρ' own = wipeE ρ₀ own
  | [], ρ, hρ, _ => ⟨ρ, rfl, hρ⟩
  | x :: l, ρ, hρ, h => by
    have h1 := h x (by simp)
    have e1 : item1 F tg own ifs go (e x) ρ = item1 F tg own ifs go (e x) ρ₀ := by
      unfold item1
      rw [hρ]
    rw [← e1] at h1
    cases q : item1 F tg own ifs go (e x) ρ with
    | ok zs ρ1 =>
      rw [q, okW_ok] at h1
      obtain ⟨ρ', t1, t2⟩ := turns_ok ys l ρ1 h1.2 (fun y hy => h y (by simp [hy]))
      refine ⟨ρ', ?_, t2⟩
      show (item1 F tg own ifs go (e x) ρ).bind _ = _
      rw [q]
      show (turns (item1 F tg own ifs go) (l.map e) ρ1).bind _ = _
      rw [t1]
      show Res.ok (zs ++ l.flatMap ys) ρ' = _
      rw [h1.1]
      rfl
    | ex => rw [q] at h1; exact h1.elim
    | bad => rw [q] at h1; exact h1.elim
def kComp (F : Ifc) (own : List Nat) (tg : Tg) (ifs : List E) (elt : E) (w : List Nat) : List D → Den RV := fun xs ρ => if blockOk ρ own then
      (turns (item1 F tg own ifs (goE F elt)) xs (lock w ρ)).calm.bind
        fun ys ρ' => if ys.length ≤ line then .ok (.own (.lst ys)) (unlock ρ w (backE ρ ρ' own)) else .bad
      else .bad
theorem ev_comp {own : List Nat} {tg : Tg} {it : E} {ifs : List E} {elt : E} : denE F (.comp own tg it ifs elt) ρ = (vIt it (denE F it) ρ).bind (kComp F own tg ifs elt (walked it)) := by
  rw [denE]
  dsimp only
  congr 1
  funext xs ρ
  rw [goE_eq, item1_eq]
  rfl
theorem kComp_ok {e : α → D} {l : List α} {own : List Nat} {tg : Tg} {ifs : List E} {elt : E} {w : List Nat} (ys : α → List D) (hb : blockOk ρ own = true)
    (h : ∀ x ∈ l, okW own (lock w ρ) (item1 F tg own ifs (goE F elt) (e x) (lock w ρ)) (ys x)) (hl : (l.flatMap ys).length ≤ 16777216) :
    kComp F own tg ifs elt w (l.map e) ρ = .ok (.own (.lst (l.flatMap ys))) ρ := by
  unfold kComp
  rw [if_pos hb]
  obtain ⟨ρ', t1, t2⟩ := turns_ok ys l (lock w ρ) rfl h
  rw [t1]
  show (if (l.flatMap ys).length ≤ 16777216 then Res.ok (RV.own (.lst (l.flatMap ys))) (unlock ρ w (backE ρ ρ' own)) else .bad) = _
  rw [if_pos hl, back_all hb t2]
theorem flatMap_one {g : α → D} : ∀ l : List α, l.flatMap (fun x => [g x]) = l.map g
  | [] => rfl
  | x :: l => by rw [List.flatMap_cons, flatMap_one l]; rfl
/-- [elt for x in l] -/
theorem kComp_map {e : α → D} {e' : β → D} {l : List α} {own : List Nat} {tg : Tg} {elt : E} {w : List Nat} (g : α → β) (hb : blockOk ρ own = true)
    (h : ∀ x ∈ l, okW own (lock w ρ) (item1 F tg own [] (goE F elt) (e x) (lock w ρ)) [e' (g x)]) (hl : l.length ≤ 16777216) :
    kComp F own tg [] elt w (l.map e) ρ = .ok (.own (.lst ((l.map g).map e'))) ρ := by
  rw [kComp_ok (fun x => [e' (g x)]) hb h (by rw [flatMap_one, List.length_map]; exact hl), flatMap_one, List.map_map]
  rfl
theorem flatMap_filter {g : α → β} {e' : β → D} {p : α → Bool} : ∀ l : List α, l.flatMap (fun x => if p x then [e' (g x)] else []) = ((l.filter p).map g).map e'
  | [] => rfl
  | x :: l => by
    rw [List.flatMap_cons, flatMap_filter l, List.filter_cons]
    cases p x <;> rfl
/-- [elt for x in l if p] -/
theorem kComp_filter {e : α → D} {e' : β → D} {l : List α} {own : List Nat} {tg : Tg} {ifs : List E} {elt : E} {w : List Nat} (p : α → Bool) (g : α → β) (hb : blockOk ρ own = true)
    (h : ∀ x ∈ l, okW own (lock w ρ) (item1 F tg own ifs (goE F elt) (e x) (lock w ρ)) (if p x then [e' (g x)] else [])) (hl : l.length ≤ 16777216) :
    kComp F own tg ifs elt w (l.map e) ρ = .ok (.own (.lst (((l.filter p).map g).map e'))) ρ := by
  rw [kComp_ok (fun x => if p x then [e' (g x)] else []) hb h (by rw [flatMap_filter, List.length_map, List.length_map]; exact Nat.le_trans (List.length_filter_le ..) hl), flatMap_filter]
/-- the inner part of [elt for x in l for y in m] -/
def kIn2 (ρ₁ : Env) (own2 w2 : List Nat) : List D → Den (List D) := fun zs ρ₂ => .ok zs (unlock ρ₁ w2 (wipeE ρ₂ own2))
def kIn (F : Ifc) (own2 : List Nat) (tg2 : Tg) (ifs2 : List E) (elt : E) (w2 : List Nat) : List D → Den (List D) := fun ys ρ₁ => if blockOk ρ₁ own2 then (turns (item1 F tg2 own2 ifs2 (goE F elt)) ys (lock w2 ρ₁)).bind (kIn2 ρ₁ own2 w2) else .bad
def go2 (F : Ifc) (it2 : E) (own2 : List Nat) (tg2 : Tg) (ifs2 : List E) (elt : E) : Den (List D) := fun ρ₁ => (vIt it2 (denE F it2) ρ₁).bind (kIn F own2 tg2 ifs2 elt (walked it2))
theorem go2_s {it2 : E} {own2 : List Nat} {tg2 : Tg} {ifs2 : List E} {elt : E} : go2 F it2 own2 tg2 ifs2 elt ρ = (vIt it2 (denE F it2) ρ).bind (kIn F own2 tg2 ifs2 elt (walked it2)) := rfl
def kComp2 (F : Ifc) (own own2 : List Nat) (tg : Tg) (ifs : List E) (tg2 : Tg) (it2 : E) (ifs2 : List E) (elt : E) (w : List Nat) : List D → Den RV := fun xs ρ => if blockOk ρ own then
      (turns (item1 F tg own ifs (go2 F it2 own2 tg2 ifs2 elt)) xs (lock w ρ)).calm.bind
        fun ys ρ' => if ys.length ≤ line then .ok (.own (.lst ys)) (unlock ρ w (backE ρ ρ' own)) else .bad
      else .bad
theorem ev_comp2 {own own2 : List Nat} {tg tg2 : Tg} {it it2 : E} {ifs ifs2 : List E} {elt : E} : denE F (.comp2 own own2 tg it ifs tg2 it2 ifs2 elt) ρ = (vIt it (denE F it) ρ).bind (kComp2 F own own2 tg ifs tg2 it2 ifs2 elt (walked it)) := by
  rw [denE]
  dsimp only
  congr 1
  funext xs ρ
  rw [goE_eq, item1_eq, item1_eq]
  rfl
theorem kIn_ok {e : α → D} {l : List α} {own2 : List Nat} {tg2 : Tg} {ifs2 : List E} {elt : E} {w2 : List Nat} (ys : α → List D) (hb : blockOk ρ own2 = true)
    (h : ∀ x ∈ l, okW own2 (lock w2 ρ) (item1 F tg2 own2 ifs2 (goE F elt) (e x) (lock w2 ρ)) (ys x)) :
    ∃ σ, wipeE σ own2 = wipeE (lock w2 ρ) own2 ∧ kIn F own2 tg2 ifs2 elt w2 (l.map e) ρ = .ok (l.flatMap ys) (unlock ρ w2 (wipeE (lock w2 ρ) own2)) := by
  obtain ⟨σ, t1, t2⟩ := turns_ok ys l (lock w2 ρ) rfl h
  refine ⟨σ, t2, ?_⟩
  show (if blockOk ρ own2 then (turns (item1 F tg2 own2 ifs2 (goE F elt)) (l.map e) (lock w2 ρ)).bind (kIn2 ρ own2 w2) else .bad) = _
  rw [if_pos hb, t1]
  show Res.ok _ (unlock ρ w2 (wipeE σ own2)) = _
  rw [t2]
theorem kIn_map {e : α → D} {e' : β → D} {l : List α} {own2 : List Nat} {tg2 : Tg} {elt : E} {w2 : List Nat} (g : α → β) (hb : blockOk ρ own2 = true)
    (h : ∀ x ∈ l, okW own2 (lock w2 ρ) (item1 F tg2 own2 [] (goE F elt) (e x) (lock w2 ρ)) [e' (g x)]) :
    kIn F own2 tg2 [] elt w2 (l.map e) ρ = .ok ((l.map g).map e') (unlock ρ w2 (wipeE (lock w2 ρ) own2)) := by
  obtain ⟨_, _, q⟩ := kIn_ok (fun x => [e' (g x)]) hb h
  rw [q, flatMap_one, List.map_map]
  rfl
theorem kIn_filter {e : α → D} {e' : β → D} {l : List α} {own2 : List Nat} {tg2 : Tg} {ifs2 : List E} {elt : E} {w2 : List Nat} (p : α → Bool) (g : α → β) (hb : blockOk ρ own2 = true)
    (h : ∀ x ∈ l, okW own2 (lock w2 ρ) (item1 F tg2 own2 ifs2 (goE F elt) (e x) (lock w2 ρ)) (if p x then [e' (g x)] else [])) :
    kIn F own2 tg2 ifs2 elt w2 (l.map e) ρ = .ok (((l.filter p).map g).map e') (unlock ρ w2 (wipeE (lock w2 ρ) own2)) := by
  obtain ⟨_, _, q⟩ := kIn_ok (fun x => if p x then [e' (g x)] else []) hb h
  rw [q, flatMap_filter]
theorem flatMap_map' {ys : α → List β} {e' : β → D} : ∀ l : List α, l.flatMap (fun x => (ys x).map e') = (l.flatMap ys).map e'
  | [] => rfl
  | x :: l => by rw [List.flatMap_cons, flatMap_map' l, List.flatMap_cons, List.map_append]
/-- [elt for x in l for y in m(x)] -/
theorem kComp2_ok {e : α → D} {e' : β → D} {l : List α} {own own2 : List Nat} {tg tg2 : Tg} {ifs ifs2 : List E} {it2 elt : E} {w : List Nat} (ys : α → List β) (hb : blockOk ρ own = true)
    (h : ∀ x ∈ l, okW own (lock w ρ) (item1 F tg own ifs (go2 F it2 own2 tg2 ifs2 elt) (e x) (lock w ρ)) ((ys x).map e')) (hl : (l.flatMap ys).length ≤ 16777216) :
    kComp2 F own own2 tg ifs tg2 it2 ifs2 elt w (l.map e) ρ = .ok (.own (.lst ((l.flatMap ys).map e'))) ρ := by
  unfold kComp2
  rw [if_pos hb]
  obtain ⟨ρ', t1, t2⟩ := turns_ok (fun x => (ys x).map e') l (lock w ρ) rfl h
  rw [t1, flatMap_map']
  show (if ((l.flatMap ys).map e').length ≤ 16777216 then Res.ok (RV.own (.lst ((l.flatMap ys).map e'))) (unlock ρ w (backE ρ ρ' own)) else .bad) = _
  rw [if_pos (by rw [List.length_map]; exact hl), back_all hb t2]
/-! ### loops -/
def goOn : SRes → Option Env
  | .nx ρ => some ρ
  | .ct ρ => some ρ
  | _ => none
theorem goOn_nx : goOn (.nx ρ) = some ρ := rfl
theorem goOn_ct : goOn (.ct ρ) = some ρ := rfl
theorem loopK_go {st : D → Env → SRes} {xs : List D} {r : SRes} (h : goOn r = some ρ) : loopK st xs r = loop st xs ρ := by
  cases r <;> simp [goOn] at h <;> subst h <;> rfl
/-- a loop as a fold over its states -/
theorem loop_fold {σ : Type} {st : D → Env → SRes} {e : α → D} (env : σ → Env) (g : σ → α → σ) : ∀ (l : List α) (s : σ), (∀ s, ∀ x ∈ l, goOn (st (e x) (env s)) = some (env (g s x))) → loop st (l.map e) (env s) = .nx (env (l.foldl g s))
  | [], s, _ => rfl
  | x :: l, s, h => by
    rw [List.map_cons, loop_cons, loopK_go (h s x (by simp)), loop_fold env g l (g s x) (fun s y hy => h s y (by simp [hy]))]
    rfl
/-- the same with a promise on the states -/
theorem loop_inv {σ : Type} {st : D → Env → SRes} {e : α → D} (env : σ → Env) (g : σ → α → σ) (I : σ → Prop) : ∀ (l : List α) (s : σ), I s → (∀ s, ∀ x ∈ l, I s → goOn (st (e x) (env s)) = some (env (g s x)) ∧ I (g s x)) → loop st (l.map e) (env s) = .nx (env (l.foldl g s)) ∧ I (l.foldl g s)
  | [], s, hs, _ => ⟨rfl, hs⟩
  | x :: l, s, hs, h => by
    have h1 := h s x (by simp) hs
    rw [List.map_cons, loop_cons, loopK_go h1.1]
    exact loop_inv env g I l (g s x) h1.2 (fun s y hy => h s y (by simp [hy]))
/-- what holds behind a turn -/
def goP (r : SRes) (Q : Env → Prop) : Prop := match r with
  | .nx ρ => Q ρ
  | .ct ρ => Q ρ
  | _ => False
theorem goP_nx {Q : Env → Prop} : goP (.nx ρ) Q = Q ρ := rfl
theorem goP_ct {Q : Env → Prop} : goP (.ct ρ) Q = Q ρ := rfl
/-- a loop by what holds of what is left -/
theorem loop_rel {st : D → Env → SRes} {e : α → D} (I : List α → Env → Prop) : ∀ (l : List α) (ρ : Env), I l ρ → (∀ x r ρ, I (x :: r) ρ → goP (st (e x) ρ) (I r)) → ∃ ρ', loop st (l.map e) ρ = .nx ρ' ∧ I [] ρ'
  | [], ρ, h, _ => ⟨ρ, rfl, h⟩
  | x :: l, ρ, h, hs => by
    have h1 := hs x l ρ h
    rw [List.map_cons, loop_cons]
    cases q : st (e x) ρ with
    | nx ρ1 => rw [q] at h1; exact loop_rel I l ρ1 h1 hs
    | ct ρ1 => rw [q] at h1; exact loop_rel I l ρ1 h1 hs
    | _ => rw [q] at h1; exact h1.elim
/-- what holds behind a call -/
def retP (c : CRes) (Q : RV → List D → Prop) : Prop := match c with
  | .ok r o => Q r o
  | _ => False
theorem retP_ok {r : RV} {o : List D} {Q : RV → List D → Prop} : retP (.ok r o) Q = Q r o := rfl
theorem of_retP {c : CRes} {Q : RV → List D → Prop} (h : retP c Q) : ∃ r o, c = .ok r o ∧ Q r o := by
  cases c with
  | ok r o => exact ⟨r, o, rfl, h⟩
  | _ => exact h.elim
/-- what holds behind some statements -/
def nxP (r : SRes) (Q : Env → Prop) : Prop := match r with
  | .nx ρ => Q ρ
  | _ => False
theorem nxP_nx {Q : Env → Prop} : nxP (.nx ρ) Q = Q ρ := rfl
theorem of_nxP {r : SRes} {Q : Env → Prop} (h : nxP r Q) : ∃ ρ, r = .nx ρ ∧ Q ρ := by
  cases r with
  | nx ρ => exact ⟨ρ, rfl, h⟩
  | _ => exact h.elim
/-- a while by a measure -/
theorem while_rel {σ : Type} {test : Den Bool} {body : Env → SRes} (env : σ → Env) (m : σ → Nat) (b : σ → Bool) (g : σ → σ) (I : σ → Prop)
    (ht : ∀ s, I s → test (env s) = .ok (b s) (env s)) (hb : ∀ s, I s → b s = true → goOn (body (env s)) = some (env (g s)) ∧ I (g s) ∧ m (g s) < m s) :
    ∀ (n : Nat) (s : σ), I s → m s < n → ∃ s', whileL test body n (env s) = .nx (env s') ∧ I s' ∧ b s' = false
  | 0, s, _, h => by omega
  | n + 1, s, hs, h => by
    show ∃ s', (test (env s)).to _ = _ ∧ _
    rw [ht s hs, to_ok']
    cases q : b s with
    | false => exact ⟨s, by rw [if_neg (by decide)], hs, q⟩
    | true =>
      obtain ⟨h1, h2, h3⟩ := hb s hs q
      obtain ⟨s', e1, e2⟩ := while_rel env m b g I ht hb n (g s) h2 (by omega)
      refine ⟨s', ?_, e2⟩
      rw [if_pos rfl, ← e1]
      cases r : body (env s) with
      | nx ρ => rw [r] at h1; simp [goOn] at h1; rw [h1]
      | ct ρ => rw [r] at h1; simp [goOn] at h1; rw [h1]
      | _ => rw [r] at h1; simp [goOn] at h1
/-! ### values by encodings -/
def tupE (e : α → D) (l : List α) : D := .tup (l.map e)
def lstE (e : α → D) (l : List α) : D := .lst (l.map e)
abbrev row : List Int → D := tupE D.int
def natD (k : Nat) : D := .int k
theorem natD_s {k : Nat} : natD k = .int (k : Int) := rfl
theorem tup_f {e : α → D} {l : List α} : D.tup (l.map e) = tupE e l := rfl
theorem tup_nil {e : α → D} : tupE e [] = D.tup [] := rfl
theorem map_app {e : α → β} {l m : List α} : l.map e ++ m.map e = (l ++ m).map e := by rw [List.map_append]
theorem map_consI {a : Int} {l : List Int} : D.int a :: l.map D.int = (a :: l).map D.int := rfl
theorem map_oneI {a : Int} : [D.int a] = [a].map D.int := rfl
theorem map_consT {e : α → D} {a : List α} {l : List (List α)} : tupE e a :: l.map (tupE e) = (a :: l).map (tupE e) := rfl
theorem map_oneT {e : α → D} {a : List α} : [tupE e a] = [a].map (tupE e) := rfl
theorem seqOf_tupE {e : α → D} {l : List α} : seqOf (tupE e l) = some (l.map e) := rfl
theorem seqTL_tupE {e : α → D} {l : List α} : seqTL (tupE e l) = some (l.map e) := rfl
theorem tru_tupE {e : α → D} {l : List α} : D.tru (tupE e l) = some (!l.isEmpty) := by
  show some (!(l.map e).isEmpty) = _
  rw [List.isEmpty_map]
theorem len_tupE {e : α → D} {l : List α} : bi F .len [tupE e l] = some (.val (.int l.length)) := by
  show some (RV.val (.int (l.map e).length)) = _
  rw [List.length_map]
theorem list_tupE {e : α → D} {l : List α} : bi F .list [tupE e l] = some (.own (.lst (l.map e))) := rfl
theorem tuple_tupE {e : α → D} {l : List α} : bi F .tuple [tupE e l] = some (.val (tupE e l)) := rfl
theorem sum_tupI {l : List Int} : sumI (l.map D.int) = some l.sum := by
  induction l with
  | nil => rfl
  | cons a l ih =>
    show (sumI (l.map D.int)).map _ = _
    rw [ih, List.sum_cons]
    rfl
theorem all_map : ∀ {l : List Bool}, allB (l.map D.bl) = some (l.all id)
  | [] => rfl
  | a :: l => by
    show (allB (l.map D.bl)).map _ = _
    rw [all_map]
    simp
theorem all_mapF {l : List α} {p : α → Bool} : (l.map p).all id = l.all p := by
  rw [List.all_map]
  rfl
theorem rev_tupE {e : α → D} {l : List α} : rev (tupE e l) = some (.val (tupE e l.reverse)) := by
  show some (RV.val (.tup (l.map e).reverse)) = _
  rw [← List.map_reverse]
  rfl
def cutG (lo hi : Option Int) (l : List α) : List α := (l.drop (clip l.length 0 lo)).take (clip l.length l.length hi - clip l.length 0 lo)
theorem slice_tupE {e : α → D} {l : List α} {lo hi : Option Int} : slice (tupE e l) lo hi = some (.val (tupE e (cutG lo hi l))) := by
  show some (RV.val (.tup (cut (l.map e) lo hi))) = _
  unfold cut cutG
  rw [List.length_map, ← List.map_drop, ← List.map_take]
  rfl
theorem slice_lstE {e : α → D} {l : List α} {lo hi : Option Int} : slice (.lst (l.map e)) lo hi = some (.own (.lst ((cutG lo hi l).map e))) := by
  show some (RV.own (.lst (cut (l.map e) lo hi))) = _
  unfold cut cutG
  rw [List.length_map, ← List.map_drop, ← List.map_take]
theorem clip_none {n d : Nat} : clip n d none = d := rfl
theorem clip_nn {n d : Nat} {k : Int} (h : 0 ≤ k) : clip n d (some k) = min k.toNat n := if_neg (by omega)
theorem clip_neg {n d : Nat} {k : Int} (h : k < 0) : clip n d (some k) = (k + n).toNat := if_pos h
theorem cutG_nn {l : List α} : cutG none none l = l := by
  unfold cutG
  rw [clip_none, clip_none, List.drop_zero, Nat.sub_zero, List.take_length]
theorem cutG_n {l : List α} {k : Int} (h : 0 ≤ k) : cutG none (some k) l = l.take k.toNat := by
  unfold cutG
  rw [clip_none, clip_nn h, List.drop_zero, Nat.sub_zero]
  by_cases h2 : k.toNat ≤ l.length
  · rw [Nat.min_eq_left h2]
  · rw [Nat.min_eq_right (by omega), List.take_length, List.take_of_length_le (by omega)]
theorem cutG_s {l : List α} {k : Int} (h : 0 ≤ k) : cutG (some k) none l = l.drop k.toNat := by
  unfold cutG
  rw [clip_none, clip_nn h]
  by_cases h2 : k.toNat ≤ l.length
  · rw [Nat.min_eq_left h2, List.take_of_length_le (by simp)]
  · rw [Nat.min_eq_right (by omega), List.drop_of_length_le (by omega), List.drop_of_length_le (by omega)]
    simp
theorem cutG_ss {l : List α} {a b : Int} (ha : 0 ≤ a) (hb : 0 ≤ b) : cutG (some a) (some b) l = (l.drop a.toNat).take (b.toNat - a.toNat) := by
  unfold cutG
  rw [clip_nn ha, clip_nn hb]
  by_cases h1 : a.toNat ≤ l.length
  · by_cases h2 : b.toNat ≤ l.length
    · rw [Nat.min_eq_left h1, Nat.min_eq_left h2]
    · rw [Nat.min_eq_left h1, Nat.min_eq_right (by omega), List.take_of_length_le (by simp), List.take_of_length_le (by simp; omega)]
  · rw [Nat.min_eq_right (b := l.length) (a := a.toNat) (by omega), List.drop_of_length_le (by omega), List.drop_of_length_le (by omega)]
    simp
theorem cutG_last {l : List α} : cutG none (some (-1)) l = l.dropLast := by
  unfold cutG
  rw [clip_none, clip_neg (by omega), List.drop_zero, Nat.sub_zero, List.dropLast_eq_take]
  congr 1
  omega
theorem atI_get {xs : List D} {i : Int} (h : 0 ≤ i) : atI xs i = xs[i.toNat]? := if_pos h
theorem idx_tupE [Inhabited α] {e : α → D} {l : List α} {i : Int} (h : 0 ≤ i ∧ i < l.length) : idx (tupE e l) (.int i) = some (e l[i.toNat]!) := by
  show atI (l.map e) i = _
  have h2 : i.toNat < l.length := by omega
  rw [atI_get h.1, List.getElem?_map, List.getElem?_eq_getElem h2, Option.map_some, getElem!_pos l i.toNat h2]
theorem idx_lstE [Inhabited α] {e : α → D} {l : List α} {i : Int} (h : 0 ≤ i ∧ i < l.length) : idx (.lst (l.map e)) (.int i) = some (e l[i.toNat]!) := idx_tupE h
theorem idx_last [Inhabited α] {e : α → D} {l : List α} (h : 1 ≤ l.length) : idx (tupE e l) (.int (-1)) = some (e l[l.length - 1]!) := by
  show atI (l.map e) (-1) = _
  have h2 : l.length - 1 < l.length := by omega
  unfold atI
  rw [if_neg (by omega), if_pos (by rw [List.length_map]; omega), List.length_map, List.getElem?_map]
  have e1 : ((l.length : Int) + -1).toNat = l.length - 1 := by omega
  rw [e1, List.getElem?_eq_getElem h2, Option.map_some, getElem!_pos l (l.length - 1) h2]
theorem idx_lastL [Inhabited α] {e : α → D} {l : List α} (h : 1 ≤ l.length) : idx (.lst (l.map e)) (.int (-1)) = some (e l[l.length - 1]!) := idx_last h
theorem idx_cons0 {e : α → D} {a : α} {l : List α} : idx (tupE e (a :: l)) (.int 0) = some (e a) := rfl
theorem rangeD1S {n : Int} (h : -16777216 ≤ n ∧ n ≤ 16777216) : rangeD [.int n] = some ((List.range n.toNat).map natD) := by
  show (if within n then some (rangeI 0 n.toNat) else none) = _
  have hw : within n = true := by unfold within big; simp; omega
  rw [if_pos hw]
  unfold rangeI natD
  simp
def offD (a : Int) (k : Nat) : D := .int (a + k)
theorem offD_s {a : Int} {k : Nat} : offD a k = .int (a + k) := rfl
theorem rangeD2S {a b : Int} (h : -16777216 ≤ a ∧ a ≤ 16777216 ∧ -16777216 ≤ b ∧ b ≤ 16777216) : rangeD [.int a, .int b] = some ((List.range (b - a).toNat).map (offD a)) := by
  show (if within a && within b then some (rangeI a (b - a).toNat) else none) = _
  have hw : (within a && within b) = true := by unfold within big; simp; omega
  rw [if_pos hw]
  rfl
def dnD (a : Int) (k : Nat) : D := .int (a + k * (-1))
theorem dnD_s {a : Int} {k : Nat} : dnD a k = .int (a + k * (-1)) := rfl
theorem rangeD3S {a b : Int} (h : -16777216 ≤ a ∧ a ≤ 16777216 ∧ -16777216 ≤ b ∧ b ≤ 16777216) : rangeD [.int a, .int b, .int (-1)] = some ((List.range (a - b).toNat).map (dnD a)) := by
  show (if within a && within b then some (rangeS a (-1) (a - b).toNat) else none) = _
  have hw : (within a && within b) = true := by unfold within big; simp; omega
  rw [if_pos hw]
  rfl
/-! ### encodings that tell values apart -/
class Cod (e : α → D) [DecidableEq α] (k : outParam Nat) : Prop where
  eqv : ∀ a b, D.eqv (e a) (e b) = decide (a = b)
  plain : ∀ a, (e a).plain = true
  lay : ∀ a, (e a).py.canLay0 = true
  dep : ∀ a, (e a).py.depth ≤ k
instance : Cod D.int 0 := ⟨fun _ _ => eqv_int, fun _ => rfl, fun _ => rfl, fun _ => Nat.le_refl 0⟩
instance : Cod D.bl 0 := ⟨fun a b => by
  show (a == b) = _
  cases a <;> cases b <;> rfl, fun _ => rfl, fun _ => rfl, fun _ => Nat.le_refl 0⟩
theorem plain_map {e : α → D} (h : ∀ a, (e a).plain = true) : ∀ l : List α, D.plainL (l.map e) = true
  | [] => rfl
  | x :: l => by
    show ((e x).plain && D.plainL (l.map e)) = true
    rw [h, plain_map h l]
    rfl
theorem lay_map {e : α → D} (h : ∀ a, (e a).py.canLay0 = true) : ∀ l : List α, PyData.canLayAll0 (D.pyL (l.map e)) = true
  | [] => rfl
  | x :: l => by
    show ((e x).py.canLay0 && PyData.canLayAll0 (D.pyL (l.map e))) = true
    rw [h, lay_map h l]
    rfl
theorem dep_map {e : α → D} {k : Nat} (h : ∀ a, (e a).py.depth ≤ k) : ∀ l : List α, PyData.depthAll (D.pyL (l.map e)) ≤ k
  | [] => Nat.zero_le k
  | x :: l => by
    show max (e x).py.depth (PyData.depthAll (D.pyL (l.map e))) ≤ k
    exact Nat.max_le.mpr ⟨h x, dep_map h l⟩
theorem eqv_map {e : α → D} [DecidableEq α] (h : ∀ a b, D.eqv (e a) (e b) = decide (a = b)) : ∀ l m : List α, PyData.eqvAll (D.pyL (l.map e)) (D.pyL (m.map e)) = decide (l = m)
  | [], [] => rfl
  | [], _ :: _ => rfl
  | _ :: _, [] => rfl
  | x :: l, y :: m => by
    show (D.eqv (e x) (e y) && PyData.eqvAll (D.pyL (l.map e)) (D.pyL (m.map e))) = _
    rw [h, eqv_map h l m]
    simp
instance {e : α → D} [DecidableEq α] {k : Nat} [c : Cod e k] : Cod (tupE e) (k + 1) :=
  ⟨fun a b => eqv_map c.eqv a b, fun l => plain_map c.plain l, fun l => lay_map c.lay l, fun l => by
    show PyData.depthAll (D.pyL (l.map e)) + 1 ≤ k + 1
    have := dep_map c.dep l
    omega⟩
instance {e : α → D} [DecidableEq α] {k : Nat} [c : Cod e k] : Cod (lstE e) (k + 1) :=
  ⟨fun a b => eqv_map c.eqv a b, fun l => plain_map c.plain l, fun l => lay_map c.lay l, fun l => by
    show PyData.depthAll (D.pyL (l.map e)) + 1 ≤ k + 1
    have := dep_map c.dep l
    omega⟩
theorem Cod.ok {e : α → D} [DecidableEq α] {k : Nat} [c : Cod e k] (h : k ≤ 64) (a : α) : (e a).eqOk = true := by
  unfold D.eqOk SeqAt.shaped
  rw [c.plain, c.lay, decide_eq_true (Nat.le_trans (c.dep a) h)]
  rfl
theorem cmp_eqT {e : α → D} [DecidableEq α] {k : Nat} [c : Cod e k] {a b : List α} (h : k + 1 ≤ 64) : cmp .eq (tupE e a) (tupE e b) = some (decide (a = b)) := by
  show (if (tupE e a).eqOk && (tupE e b).eqOk then some (D.eqv (tupE e a) (tupE e b)) else none) = _
  rw [Cod.ok h, Cod.ok h, Cod.eqv]
  rfl
theorem cmp_neT {e : α → D} [DecidableEq α] {k : Nat} [c : Cod e k] {a b : List α} (h : k + 1 ≤ 64) : cmp .ne (tupE e a) (tupE e b) = some (!decide (a = b)) := by
  show (if (tupE e a).eqOk && (tupE e b).eqOk then some (!D.eqv (tupE e a) (tupE e b)) else none) = _
  rw [Cod.ok h, Cod.ok h, Cod.eqv]
  rfl
theorem cmp_eqT0 {e : α → D} [DecidableEq α] {k : Nat} [c : Cod e k] {a : List α} (h : k + 1 ≤ 64) : cmp .eq (tupE e a) (.tup []) = some (decide (a = [])) := cmp_eqT (b := []) h
theorem cmp_neT0 {e : α → D} [DecidableEq α] {k : Nat} [c : Cod e k] {a : List α} (h : k + 1 ≤ 64) : cmp .ne (tupE e a) (.tup []) = some (!decide (a = [])) := cmp_neT (b := []) h
theorem cmp_eqL {e : α → D} [DecidableEq α] {k : Nat} [c : Cod e k] {a b : List α} (h : k + 1 ≤ 64) : cmp .eq (.lst (a.map e)) (.lst (b.map e)) = some (decide (a = b)) := by
  show (if (lstE e a).eqOk && (lstE e b).eqOk then some (D.eqv (lstE e a) (lstE e b)) else none) = _
  rw [Cod.ok h, Cod.ok h, Cod.eqv]
  rfl
theorem cmp_neL {e : α → D} [DecidableEq α] {k : Nat} [c : Cod e k] {a b : List α} (h : k + 1 ≤ 64) : cmp .ne (.lst (a.map e)) (.lst (b.map e)) = some (!decide (a = b)) := by
  show (if (lstE e a).eqOk && (lstE e b).eqOk then some (!D.eqv (lstE e a) (lstE e b)) else none) = _
  rw [Cod.ok h, Cod.ok h, Cod.eqv]
  rfl
theorem cmp_eqL0 {e : α → D} [DecidableEq α] {k : Nat} [c : Cod e k] {a : List α} (h : k + 1 ≤ 64) : cmp .eq (.lst (a.map e)) (.lst []) = some (decide (a = [])) := cmp_eqL (b := []) h
theorem cmp_neL0 {e : α → D} [DecidableEq α] {k : Nat} [c : Cod e k] {a : List α} (h : k + 1 ≤ 64) : cmp .ne (.lst (a.map e)) (.lst []) = some (!decide (a = [])) := cmp_neL (b := []) h
/-- membership, told one way -/
def memB [DecidableEq α] (a : α) (l : List α) : Bool := decide (a ∈ l)
theorem memB_iff [DecidableEq α] {a : α} {l : List α} : memB a l = true ↔ a ∈ l := decide_eq_true_iff
theorem memB_t [DecidableEq α] {a : α} {l : List α} (h : a ∈ l) : memB a l = true := decide_eq_true h
theorem memB_f [DecidableEq α] {a : α} {l : List α} (h : a ∉ l) : memB a l = false := decide_eq_false h
theorem isIn_map {e : α → D} [DecidableEq α] {k : Nat} [c : Cod e k] {a : α} : ∀ l : List α, isIn (e a) (l.map e) = memB a l
  | [] => by simp [isIn, memB]
  | x :: l => by
    show (D.eqv (e x) (e a) || isIn (e a) (l.map e)) = _
    rw [c.eqv, isIn_map l]
    unfold memB
    by_cases h : x = a
    · simp [h]
    · simp [h, Ne.symm h]
theorem inOk_map {e : α → D} [DecidableEq α] {k : Nat} [c : Cod e k] (h : k + 1 ≤ 64) (a : α) (l : List α) : inOk (e a) (l.map e) = true := by
  unfold inOk
  rw [Cod.ok (e := e) (by omega) a, show (D.lst (l.map e)).eqOk = true from Cod.ok (e := lstE e) h l]
  rfl
theorem cmp_inT {e : α → D} [DecidableEq α] {k : Nat} [c : Cod e k] {a : α} {l : List α} (h : k + 1 ≤ 64) : cmp .isIn (e a) (tupE e l) = some (memB a l) := by
  have q : cmp .isIn (e a) (tupE e l) = if inOk (e a) (l.map e) then some (isIn (e a) (l.map e)) else none := by
    show cmp .isIn (e a) (.tup (l.map e)) = _
    cases e a <;> rfl
  rw [q, inOk_map h, isIn_map]
  rfl
theorem cmp_ninT {e : α → D} [DecidableEq α] {k : Nat} [c : Cod e k] {a : α} {l : List α} (h : k + 1 ≤ 64) : cmp .notIn (e a) (tupE e l) = some (!memB a l) := by
  have q : cmp .notIn (e a) (tupE e l) = if inOk (e a) (l.map e) then some (!isIn (e a) (l.map e)) else none := by
    show cmp .notIn (e a) (.tup (l.map e)) = _
    cases e a <;> rfl
  rw [q, inOk_map h, isIn_map]
  rfl
theorem cmp_inL {e : α → D} [DecidableEq α] {k : Nat} [c : Cod e k] {a : α} {l : List α} (h : k + 1 ≤ 64) : cmp .isIn (e a) (.lst (l.map e)) = some (memB a l) := by
  have q : cmp .isIn (e a) (.lst (l.map e)) = if inOk (e a) (l.map e) then some (isIn (e a) (l.map e)) else none := by
    cases e a <;> rfl
  rw [q, inOk_map h, isIn_map]
  rfl
theorem cmp_ninL {e : α → D} [DecidableEq α] {k : Nat} [c : Cod e k] {a : α} {l : List α} (h : k + 1 ≤ 64) : cmp .notIn (e a) (.lst (l.map e)) = some (!memB a l) := by
  have q : cmp .notIn (e a) (.lst (l.map e)) = if inOk (e a) (l.map e) then some (!isIn (e a) (l.map e)) else none := by
    cases e a <;> rfl
  rw [q, inOk_map h, isIn_map]
  rfl
end Mini

/- S3 -/
set_option Elab.async false
set_option linter.all false
set_option maxRecDepth 100000
/-! S3: the unconditional forms that simp takes, and draws of booleans. -/
namespace Mini
open PySem
variable {F : Ifc} {ρ : Env} {α β : Type}
def callG (F : Ifc) (f : Str) (os : List Opd) (ρ : Env) : Bool → Res RV
  | true => callD F f os ρ (fetchAll ρ os)
  | false => .bad
theorem callG_t {f : Str} {os : List Opd} : callG F f os ρ true = callD F f os ρ (fetchAll ρ os) := rfl
theorem callF_g {f : Str} {os : List Opd} : callF F f os ρ = callG F f os ρ (lentOk ρ os (F.ino f) []) := by
  cases h : lentOk ρ os (F.ino f) [] with
  | true => rw [callF_s h]; rfl
  | false =>
    unfold callF
    rw [h]
    rfl
theorem ret_lit {d : D} : retE F (.lit d) ρ = (denE F (.lit d) ρ).to kRt := rfl
theorem ret_glob {x : Str} : retE F (.glob x) ρ = (denE F (.glob x) ρ).to kRt := rfl
theorem ret_op {o : Op2} {a b : E} : retE F (.op o a b) ρ = (denE F (.op o a b) ρ).to kRt := rfl
theorem ret_neg {a : E} : retE F (.neg a) ρ = (denE F (.neg a) ρ).to kRt := rfl
theorem ret_not {a : E} : retE F (.notE a) ρ = (denE F (.notE a) ρ).to kRt := rfl
theorem ret_and {a b : E} : retE F (.andE a b) ρ = (denE F (.andE a b) ρ).to kRt := rfl
theorem ret_or {a b : E} : retE F (.orE a b) ρ = (denE F (.orE a b) ρ).to kRt := rfl
theorem ret_cmp {c : CmpO} {a b : E} : retE F (.cmp c a b) ρ = (denE F (.cmp c a b) ρ).to kRt := rfl
theorem ret_chain {c c' : CmpO} {a b d : E} : retE F (.chain c c' a b d) ρ = (denE F (.chain c c' a b d) ρ).to kRt := rfl
theorem ret_ite {a b c : E} : retE F (.ite a b c) ρ = (denE F (.ite a b c) ρ).to kRt := rfl
theorem ret_tup {st : List Bool} {es : List E} : retE F (.tup st es) ρ = (denE F (.tup st es) ρ).to kRt := rfl
theorem ret_lst {st : List Bool} {es : List E} : retE F (.lst st es) ρ = (denE F (.lst st es) ρ).to kRt := rfl
theorem ret_dict {ks vs : List E} : retE F (.dict ks vs) ρ = (denE F (.dict ks vs) ρ).to kRt := rfl
theorem ret_idx {a b : E} : retE F (.idx a b) ρ = (denE F (.idx a b) ρ).to kRt := rfl
theorem ret_slice {a b c : E} : retE F (.slice a b c) ρ = (denE F (.slice a b c) ρ).to kRt := rfl
theorem ret_rev {a : E} : retE F (.rev a) ρ = (denE F (.rev a) ρ).to kRt := rfl
theorem ret_call {x : Str} {as ws : List E} {ks : List Str} : retE F (.call x as ks ws) ρ = (denE F (.call x as ks ws) ρ).to kRt := rfl
theorem ret_bi {b : BI} {as : List E} : retE F (.bi b as) ρ = (denE F (.bi b as) ρ).to kRt := rfl
theorem ret_attr {a : E} {x : Str} : retE F (.attr a x) ρ = (denE F (.attr a x) ρ).to kRt := rfl
theorem ret_comp {own : List Nat} {tg : Tg} {it : E} {ifs : List E} {elt : E} : retE F (.comp own tg it ifs elt) ρ = (denE F (.comp own tg it ifs elt) ρ).to kRt := rfl
theorem ret_comp2 {own own2 : List Nat} {tg tg2 : Tg} {it it2 : E} {ifs ifs2 : List E} {elt : E} : retE F (.comp2 own own2 tg it ifs tg2 it2 ifs2 elt) ρ = (denE F (.comp2 own own2 tg it ifs tg2 it2 ifs2 elt) ρ).to kRt := rfl
theorem ev_attr {a : E} {x : Str} : denE F (.attr a x) ρ = (vO a (denE F a) ρ).bind fun d ρ => Res.of ((fetch ρ d).bind fun
    | .exc c [v] => if c = "TooMany" ∧ x = "most" then some (.val v) else none
    | _ => none) ρ := rfl
/-! isinstance -/
def D.isTup : D → Bool
  | .tup _ => true
  | _ => false
def D.isInt : D → Bool
  | .int _ => true
  | .bl _ => true
  | _ => false
def D.isBl : D → Bool
  | .bl _ => true
  | _ => false
def D.isStr : D → Bool
  | .str _ => true
  | _ => false
def D.isLst : D → Bool
  | .lst _ => true
  | _ => false
def D.isDic : D → Bool
  | .dic _ _ => true
  | _ => false
theorem isi_tup {d : D} (h : d.base = true) : bi F (.isi .tup) [d] = some (.val (.bl d.isTup)) := by
  cases d <;> first | rfl | exact Bool.noConfusion h
theorem isi_int {d : D} (h : d.base = true) : bi F (.isi .int) [d] = some (.val (.bl d.isInt)) := by
  cases d <;> first | rfl | exact Bool.noConfusion h
theorem isi_bool {d : D} (h : d.base = true) : bi F (.isi .bool) [d] = some (.val (.bl d.isBl)) := by
  cases d <;> first | rfl | exact Bool.noConfusion h
theorem isi_str {d : D} (h : d.base = true) : bi F (.isi .str) [d] = some (.val (.bl d.isStr)) := by
  cases d <;> first | rfl | exact Bool.noConfusion h
theorem isi_lst {d : D} (h : d.base = true) : bi F (.isi .lst) [d] = some (.val (.bl d.isLst)) := by
  cases d <;> first | rfl | exact Bool.noConfusion h
theorem isi_dic {d : D} (h : d.base = true) : bi F (.isi .dic) [d] = some (.val (.bl d.isDic)) := by
  cases d <;> first | rfl | exact Bool.noConfusion h
theorem isi_intI {i : Int} : bi F (.isi .int) [.int i] = some (.val (.bl true)) := rfl
theorem isi_boolI {i : Int} : bi F (.isi .bool) [.int i] = some (.val (.bl false)) := rfl
theorem isi_tupT {xs : List D} : bi F (.isi .tup) [.tup xs] = some (.val (.bl true)) := rfl
theorem isi_tupE {e : α → D} {l : List α} : bi F (.isi .tup) [tupE e l] = some (.val (.bl true)) := rfl
theorem isi_clsN {x : Str} : bi F (.isi (.cls x)) [.non] = some (.val (.bl false)) := rfl
theorem isi_clsX {x c : Str} {pl : List D} (h : F.sub c c = true) : bi F (.isi (.cls x)) [.exc c pl] = some (.val (.bl (F.sub c x))) := by
  show (if F.sub c c then some (RV.val (.bl (F.sub c x))) else none) = _
  rw [h]
  rfl
/-- whole numbers -/
def D.whole : D → Bool
  | .int _ => true
  | _ => false
theorem isInt_notBl {d : D} : (d.isInt && !d.isBl) = d.whole := by cases d <;> rfl
theorem whole_int {i : Int} : D.whole (.int i) = true := rfl
theorem idx_cut {xs : List D} {i : Int} : idx (.tup xs) (.int i) = atI xs i := rfl
theorem not_dec {p : Prop} [Decidable p] : (!decide p) = decide (¬ p) := by simp
theorem toNat_cast {n : Nat} : ((n : Int)).toNat = n := Int.toNat_natCast n
theorem toNat_cast1 {n : Nat} : ((n : Int) + 1).toNat = n + 1 := by omega
theorem okW_one {own : List Nat} {ρ₀ : Env} {z y : D} (h : z = y) (hw : wipeE ρ own = wipeE ρ₀ own) : okW own ρ₀ (.ok [z] ρ) [y] := ⟨by rw [h], hw⟩
theorem and_true' {p : Bool} : (true && p) = p := Bool.true_and p
theorem map_v0 : List.map Opd.v [] = [] := rfl
theorem map_vc {d : D} {ds : List D} : List.map Opd.v (d :: ds) = .v d :: ds.map .v := rfl
theorem map_r0 : List.map RV.val [] = [] := rfl
theorem map_rc {d : D} {ds : List D} : List.map RV.val (d :: ds) = .val d :: ds.map .val := rfl
theorem tup_1I {a : Int} : D.tup [D.int a] = tupE D.int [a] := rfl
theorem tup_2I {a b : Int} : D.tup [D.int a, D.int b] = tupE D.int [a, b] := rfl
theorem tup_3I {a b c : Int} : D.tup [D.int a, D.int b, D.int c] = tupE D.int [a, b, c] := rfl
theorem lst_1I {a : Int} : D.lst [D.int a] = .lst ([a].map D.int) := rfl
theorem lst_1T {e : α → D} {a : List α} : D.lst [tupE e a] = .lst ([a].map (tupE e)) := rfl
theorem tup_1T {e : α → D} {a : List α} : D.tup [tupE e a] = tupE (tupE e) [a] := rfl
theorem snocI {a : Int} {l : List Int} : l.map D.int ++ [D.int a] = (l ++ [a]).map D.int := by rw [List.map_append]; rfl
theorem snocT {e : α → D} {a : List α} {l : List (List α)} : l.map (tupE e) ++ [tupE e a] = (l ++ [a]).map (tupE e) := by rw [List.map_append]; rfl
theorem op_fdiv64 {a b : Int} (h : 0 < b ∧ b < 18446744073709551616) : op2 .fdiv (.int a) (.int b) = some (.val (.int (a / b))) := by
  refine op_fdiv ⟨h.1, ?_⟩
  have := (Nat.log2_lt (n := b.natAbs) (k := 64) (by omega)).mpr (by omega)
  omega
theorem isTup_tupE {e : α → D} {l : List α} : (tupE e l).isTup = true := rfl
theorem isTup_tup {l : List D} : (D.tup l).isTup = true := rfl
theorem op_mulE {e : α → D} {a : α} {k : Int} (h : k ≤ 1000 ∧ -1000 ≤ k) : op2 .mul (tupE e [a]) (.int k) = some (.val (tupE e (List.replicate k.toNat a))) := by
  have q : op2 .mul (.tup [e a]) (.int k) = some (.val (.tup (repL [e a] k.toNat))) := op_mulT ⟨h.1, h.2, by simp⟩
  refine Eq.trans q ?_
  have e1 : ∀ n : Nat, repL [e a] n = (List.replicate n a).map e := by
    intro n
    induction n with
    | zero => rfl
    | succ n ih =>
      show [e a] ++ repL [e a] n = _
      rw [ih, List.replicate_succ]
      rfl
  rw [e1]
  rfl
theorem op_addE {e : α → D} {l m : List α} (h : l.length + m.length ≤ 16777216) : op2 .add (tupE e l) (tupE e m) = some (.val (tupE e (l ++ m))) := by
  have q : op2 .add (.tup (l.map e)) (.tup (m.map e)) = some (.val (.tup (l.map e ++ m.map e))) := op_addT (by rw [List.length_map, List.length_map]; exact h)
  refine Eq.trans q ?_
  rw [map_app]
  rfl
theorem op_addE0 {e : α → D} {l : List α} (h : l.length ≤ 16777216) : op2 .add (tupE e l) (.tup []) = some (.val (tupE e l)) := by
  have q := op_addE (e := e) (l := l) (m := []) (by simpa using h)
  rw [List.append_nil] at q
  exact q
theorem merge_nil {ks vs : List D} : mergeKV ks vs [] [] = (ks, vs) := by unfold mergeKV; rfl
theorem isInt_tupE {e : α → D} {l : List α} : (tupE e l).isInt = false := rfl
theorem isBl_tupE {e : α → D} {l : List α} : (tupE e l).isBl = false := rfl
theorem isStr_tupE {e : α → D} {l : List α} : (tupE e l).isStr = false := rfl
theorem isLst_tupE {e : α → D} {l : List α} : (tupE e l).isLst = false := rfl
theorem isDic_tupE {e : α → D} {l : List α} : (tupE e l).isDic = false := rfl
theorem whole_tupE {e : α → D} {l : List α} : (tupE e l).whole = false := rfl
theorem p_isTup_non : D.isTup D.non = false := rfl
theorem p_isTup_bl {b : Bool} : D.isTup (D.bl b) = false := rfl
theorem p_isTup_int {i : Int} : D.isTup (D.int i) = false := rfl
theorem p_isTup_str {x : Str} : D.isTup (D.str x) = false := rfl
theorem p_isTup_tup {xs : List D} : D.isTup (D.tup xs) = true := rfl
theorem p_isTup_lst {xs : List D} : D.isTup (D.lst xs) = false := rfl
theorem p_isTup_dic {ks vs : List D} : D.isTup (D.dic ks vs) = false := rfl
theorem p_isInt_non : D.isInt D.non = false := rfl
theorem p_isInt_bl {b : Bool} : D.isInt (D.bl b) = true := rfl
theorem p_isInt_int {i : Int} : D.isInt (D.int i) = true := rfl
theorem p_isInt_str {x : Str} : D.isInt (D.str x) = false := rfl
theorem p_isInt_tup {xs : List D} : D.isInt (D.tup xs) = false := rfl
theorem p_isInt_lst {xs : List D} : D.isInt (D.lst xs) = false := rfl
theorem p_isInt_dic {ks vs : List D} : D.isInt (D.dic ks vs) = false := rfl
theorem p_isBl_non : D.isBl D.non = false := rfl
theorem p_isBl_bl {b : Bool} : D.isBl (D.bl b) = true := rfl
theorem p_isBl_int {i : Int} : D.isBl (D.int i) = false := rfl
theorem p_isBl_str {x : Str} : D.isBl (D.str x) = false := rfl
theorem p_isBl_tup {xs : List D} : D.isBl (D.tup xs) = false := rfl
theorem p_isBl_lst {xs : List D} : D.isBl (D.lst xs) = false := rfl
theorem p_isBl_dic {ks vs : List D} : D.isBl (D.dic ks vs) = false := rfl
theorem p_isStr_non : D.isStr D.non = false := rfl
theorem p_isStr_bl {b : Bool} : D.isStr (D.bl b) = false := rfl
theorem p_isStr_int {i : Int} : D.isStr (D.int i) = false := rfl
theorem p_isStr_str {x : Str} : D.isStr (D.str x) = true := rfl
theorem p_isStr_tup {xs : List D} : D.isStr (D.tup xs) = false := rfl
theorem p_isStr_lst {xs : List D} : D.isStr (D.lst xs) = false := rfl
theorem p_isStr_dic {ks vs : List D} : D.isStr (D.dic ks vs) = false := rfl
theorem p_isLst_non : D.isLst D.non = false := rfl
theorem p_isLst_bl {b : Bool} : D.isLst (D.bl b) = false := rfl
theorem p_isLst_int {i : Int} : D.isLst (D.int i) = false := rfl
theorem p_isLst_str {x : Str} : D.isLst (D.str x) = false := rfl
theorem p_isLst_tup {xs : List D} : D.isLst (D.tup xs) = false := rfl
theorem p_isLst_lst {xs : List D} : D.isLst (D.lst xs) = true := rfl
theorem p_isLst_dic {ks vs : List D} : D.isLst (D.dic ks vs) = false := rfl
theorem p_isDic_non : D.isDic D.non = false := rfl
theorem p_isDic_bl {b : Bool} : D.isDic (D.bl b) = false := rfl
theorem p_isDic_int {i : Int} : D.isDic (D.int i) = false := rfl
theorem p_isDic_str {x : Str} : D.isDic (D.str x) = false := rfl
theorem p_isDic_tup {xs : List D} : D.isDic (D.tup xs) = false := rfl
theorem p_isDic_lst {xs : List D} : D.isDic (D.lst xs) = false := rfl
theorem p_isDic_dic {ks vs : List D} : D.isDic (D.dic ks vs) = true := rfl
theorem p_whole_non : D.whole D.non = false := rfl
theorem p_whole_bl {b : Bool} : D.whole (D.bl b) = false := rfl
theorem p_whole_int {i : Int} : D.whole (D.int i) = true := rfl
theorem p_whole_str {x : Str} : D.whole (D.str x) = false := rfl
theorem p_whole_tup {xs : List D} : D.whole (D.tup xs) = false := rfl
theorem p_whole_lst {xs : List D} : D.whole (D.lst xs) = false := rfl
theorem p_whole_dic {ks vs : List D} : D.whole (D.dic ks vs) = false := rfl
theorem p_isN_non : D.isN D.non = true := rfl
theorem p_isN_bl {b : Bool} : D.isN (D.bl b) = false := rfl
theorem p_isN_int {i : Int} : D.isN (D.int i) = false := rfl
theorem p_isN_str {x : Str} : D.isN (D.str x) = false := rfl
theorem p_isN_tup {xs : List D} : D.isN (D.tup xs) = false := rfl
theorem p_isN_lst {xs : List D} : D.isN (D.lst xs) = false := rfl
theorem p_isN_dic {ks vs : List D} : D.isN (D.dic ks vs) = false := rfl
theorem p_isN_tupE {e : α → D} {l : List α} : (tupE e l).isN = false := rfl
theorem op_addET {e : α → D} {l : List α} {xs : List D} (h : l.length + xs.length ≤ 16777216) : op2 .add (tupE e l) (.tup xs) = some (.val (.tup (l.map e ++ xs))) :=
  op_addT (xs := l.map e) (by rw [List.length_map]; exact h)
theorem op_addTE {e : α → D} {l : List α} {xs : List D} (h : xs.length + l.length ≤ 16777216) : op2 .add (.tup xs) (tupE e l) = some (.val (.tup (xs ++ l.map e))) :=
  op_addT (ys := l.map e) (by rw [List.length_map]; exact h)
theorem callvS_in {fs : List Str} {as : List E} {f : Str} (h : fs.contains f = true) : callvS F fs as ρ (some (.fn f)) = (vVs (denL F as) ρ).bind (kCv2 F f) := by
  rw [callvS_s, if_neg (by rw [h]; decide)]
theorem isi_cls1 {x c : Str} {pl : List D} (h1 : F.sub c c = true) (h2 : F.sub c x = true) : bi F (.isi (.cls x)) [.exc c pl] = some (.val (.bl true)) := by
  rw [isi_clsX h1, h2]
theorem cmp_tt {a b : D} (h : cmp .eq a b = some true) : cmp .eq a b = some true := h
theorem loop_all {st : D → Env → SRes} (I : Env → Prop) : ∀ (l : List D) (ρ : Env), I ρ → (∀ x ∈ l, ∀ ρ, I ρ → goP (st x ρ) I) → ∃ ρ', loop st l ρ = .nx ρ' ∧ I ρ'
  | [], ρ, h, _ => ⟨ρ, rfl, h⟩
  | x :: l, ρ, h, hs => by
    have h1 := hs x (by simp) ρ h
    rw [loop_cons]
    cases q : st x ρ with
    | nx ρ1 => rw [q] at h1; exact loop_all I l ρ1 h1 fun y hy => hs y (by simp [hy])
    | ct ρ1 => rw [q] at h1; exact loop_all I l ρ1 h1 fun y hy => hs y (by simp [hy])
    | _ => rw [q] at h1; exact h1.elim
/-! eager forms: where both parts are known -/
def andR (p : Bool) (ρ : Env) (r : Res RV) : Res RV := match p with
  | true => r.bind kLastB
  | false => .ok (.val (.bl false)) ρ
theorem kAnd_r {b : E} {p : Bool} : kAnd F b (.val (.bl p)) ρ = andR p ρ (denE F b ρ) := by cases p <;> rfl
theorem andR_ok {p q : Bool} : andR p ρ (.ok (.val (.bl q)) ρ) = .ok (.val (.bl (p && q))) ρ := by cases p <;> rfl
theorem andR_t {r : Res RV} : andR true ρ r = r.bind kLastB := rfl
theorem andR_f {r : Res RV} : andR false ρ r = .ok (.val (.bl false)) ρ := rfl
def orR (p : Bool) (ρ : Env) (r : Res RV) : Res RV := match p with
  | false => r.bind kLastB
  | true => .ok (.val (.bl true)) ρ
theorem kOr_r {b : E} {p : Bool} : kOr F b (.val (.bl p)) ρ = orR p ρ (denE F b ρ) := by cases p <;> rfl
theorem orR_ok {p q : Bool} : orR p ρ (.ok (.val (.bl q)) ρ) = .ok (.val (.bl (p || q))) ρ := by cases p <;> rfl
theorem orR_f {r : Res RV} : orR false ρ r = r.bind kLastB := rfl
theorem orR_t {r : Res RV} : orR true ρ r = .ok (.val (.bl true)) ρ := rfl
def chR (p : Bool) (ρ : Env) (r : Res RV) : Res RV := match p with
  | true => r
  | false => .ok (.val (.bl false)) ρ
theorem kCh3_r {c2 : CmpO} {c : E} {y : Opd} {p : Bool} : kCh3 F c2 c y p ρ = chR p ρ ((vO c (denE F c) ρ).bind (kCmp2 c2 y)) := by cases p <;> rfl
theorem chR_ok {p q : Bool} : chR p ρ (.ok (.val (.bl q)) ρ) = .ok (.val (.bl (p && q))) ρ := by cases p <;> rfl
theorem chR_t {r : Res RV} : chR true ρ r = r := rfl
theorem chR_f {r : Res RV} : chR false ρ r = .ok (.val (.bl false)) ρ := rfl
def iteR (p : Bool) (r1 r2 : Res RV) : Res RV := match p with
  | true => r1
  | false => r2
theorem kIte_r {a b : E} {p : Bool} : kIte F a b p ρ = iteR p ((denE F a ρ).bind kVRet) ((denE F b ρ).bind kVRet) := by cases p <;> rfl
theorem iteR_ok {p : Bool} {x y : D} : iteR p (.ok (.val x) ρ) (.ok (.val y) ρ) = .ok (.val (if p then x else y)) ρ := by cases p <;> rfl
theorem iteR_t {r1 r2 : Res RV} : iteR true r1 r2 = r1 := rfl
theorem iteR_f {r1 r2 : Res RV} : iteR false r1 r2 = r2 := rfl
theorem ite_int {c : Prop} [Decidable c] {a b : Int} : (if c then D.int a else D.int b) = D.int (if c then a else b) := by split <;> rfl
theorem ite_tupE {c : Prop} [Decidable c] {e : α → D} {a b : List α} : (if c then tupE e a else tupE e b) = tupE e (if c then a else b) := by split <;> rfl
end Mini

/- S4 -/
set_option Elab.async false
set_option linter.all false
set_option maxRecDepth 100000
/-! S4: any values: tame ones, their nodes; equality of a value with itself. -/
namespace Mini
open PySem
mutual
def D.nodes : D → Nat
  | .tup xs => 1 + D.nodesL xs
  | .lst xs => 1 + D.nodesL xs
  | _ => 1
def D.nodesL : List D → Nat
  | [] => 0
  | x :: xs => D.nodes x + D.nodesL xs
end
theorem D.nodesL_append : ∀ xs ys : List D, D.nodesL (xs ++ ys) = D.nodesL xs + D.nodesL ys
  | [], ys => by simp [D.nodesL]
  | x :: xs, ys => by
    show x.nodes + D.nodesL (xs ++ ys) = x.nodes + D.nodesL xs + D.nodesL ys
    rw [D.nodesL_append xs ys]
    omega
theorem D.nodes_pos (d : D) : 1 ≤ d.nodes := by cases d <;> simp [D.nodes]
theorem D.length_nodesL : ∀ xs : List D, xs.length ≤ D.nodesL xs
  | [] => Nat.le_refl 0
  | x :: xs => by
    have h1 := D.nodes_pos x
    have h2 := D.length_nodesL xs
    show xs.length + 1 ≤ x.nodes + D.nodesL xs
    omega
/-- a value of None, truths, numbers, texts, tuples and lists, not deep -/
def D.tame (d : D) : Bool := d.plain && d.py.canLay0 && decide (d.py.depth ≤ 40)
theorem tame_eqOk {d : D} (h : d.tame = true) : d.eqOk = true := by
  unfold D.tame at h
  simp only [Bool.and_eq_true, decide_eq_true_eq] at h
  unfold D.eqOk SeqAt.shaped
  rw [h.1.1, h.1.2]
  simp
  omega
theorem canLayAll_map : ∀ xs : List D, PyData.canLayAll0 (D.pyL xs) = xs.all fun x => x.py.canLay0
  | [] => rfl
  | x :: xs => by
    show (x.py.canLay0 && PyData.canLayAll0 (D.pyL xs)) = _
    rw [canLayAll_map xs]
    rfl
theorem depthAll_le {k : Nat} : ∀ xs : List D, PyData.depthAll (D.pyL xs) ≤ k ↔ ∀ x ∈ xs, x.py.depth ≤ k
  | [] => by simp [D.pyL, PyData.depthAll]
  | x :: xs => by
    show max x.py.depth (PyData.depthAll (D.pyL xs)) ≤ k ↔ _
    rw [Nat.max_le, depthAll_le xs]
    simp
theorem listOk {xs : List D} {k : Nat} (hk : k ≤ 63) (h : ∀ x ∈ xs, x.plain = true ∧ x.py.canLay0 = true ∧ x.py.depth ≤ k) : (D.lst xs).eqOk = true := by
  have h1 : D.plainL xs = true := by rw [D.plainL_all, List.all_eq_true]; exact fun x hx => (h x hx).1
  have h2 : PyData.canLayAll0 (D.pyL xs) = true := by rw [canLayAll_map, List.all_eq_true]; exact fun x hx => (h x hx).2.1
  have h3 : PyData.depthAll (D.pyL xs) ≤ k := (depthAll_le xs).mpr fun x hx => (h x hx).2.2
  show (D.plainL xs && (PyData.canLayAll0 (D.pyL xs) && decide (PyData.depthAll (D.pyL xs) + 1 ≤ 64))) = true
  rw [h1, h2, decide_eq_true (by omega)]
  rfl
theorem eqvAll_refl_of : ∀ xs : List PyData, (∀ x ∈ xs, PyData.eqv x x = true) → PyData.eqvAll xs xs = true
  | [], _ => rfl
  | x :: xs, h => by
    show (PyData.eqv x x && PyData.eqvAll xs xs) = true
    rw [h x (by simp), eqvAll_refl_of xs (fun y hy => h y (by simp [hy]))]
    rfl
mutual
theorem eqv_refl : ∀ d : D, d.plain = true → D.eqv d d = true
  | .non, _ => rfl
  | .bl b, _ => by cases b <;> rfl
  | .int i, _ => by show (i == i) = true; simp
  | .str x, _ => by show (x == x) = true; simp
  | .tup xs, h => eqvL_refl xs h
  | .lst xs, h => eqvL_refl xs h
  | .dic _ _, h => Bool.noConfusion h
  | .fn _, h => Bool.noConfusion h
  | .exc _ _, h => Bool.noConfusion h
  | .scr _, h => Bool.noConfusion h
theorem eqvL_refl : ∀ xs : List D, D.plainL xs = true → PyData.eqvAll (D.pyL xs) (D.pyL xs) = true
  | [], _ => rfl
  | x :: xs, h => by
    have h' : (x.plain && D.plainL xs) = true := h
    rw [Bool.and_eq_true] at h'
    show (D.eqv x x && PyData.eqvAll (D.pyL xs) (D.pyL xs)) = true
    rw [eqv_refl x h'.1, eqvL_refl xs h'.2]
    rfl
end
theorem cmp_refl {d : D} (h : d.eqOk = true) : cmp .eq d d = some true := by
  show (if d.eqOk && d.eqOk then some (D.eqv d d) else none) = _
  rw [h, eqv_refl d (by unfold D.eqOk at h; rw [Bool.and_eq_true] at h; exact h.1)]
  rfl
theorem cmp_neNil {xs : List D} (h : (D.lst xs).eqOk = true) : cmp .ne (.lst xs) (.lst []) = some (!xs.isEmpty) := by
  show (if (D.lst xs).eqOk && (D.lst []).eqOk then some (!D.eqv (.lst xs) (.lst [])) else none) = _
  rw [h]
  cases xs <;> rfl
/-! tame values by parts -/
theorem tame_plain {d : D} (h : d.tame = true) : d.plain = true ∧ d.py.canLay0 = true ∧ d.py.depth ≤ 40 := by
  unfold D.tame at h
  simp only [Bool.and_eq_true, decide_eq_true_eq] at h
  exact ⟨h.1.1, h.1.2, h.2⟩
theorem tame_of {d : D} (h : d.plain = true ∧ d.py.canLay0 = true ∧ d.py.depth ≤ 40) : d.tame = true := by
  unfold D.tame
  rw [h.1, h.2.1, decide_eq_true h.2.2]
  rfl
theorem tame_kid {xs : List D} (h : (D.lst xs).tame = true) : ∀ x ∈ xs, x.tame = true := by
  have h' := tame_plain h
  have h1 : D.plainL xs = true := h'.1
  have h2 : PyData.canLayAll0 (D.pyL xs) = true := h'.2.1
  have h3 : PyData.depthAll (D.pyL xs) + 1 ≤ 40 := h'.2.2
  rw [D.plainL_all, List.all_eq_true] at h1
  rw [canLayAll_map, List.all_eq_true] at h2
  have h4 := (depthAll_le (k := 39) xs).mp (by omega)
  exact fun x hx => tame_of ⟨h1 x hx, h2 x hx, by have := h4 x hx; omega⟩
theorem tame_kidT {xs : List D} (h : (D.tup xs).tame = true) : ∀ x ∈ xs, x.tame = true := tame_kid h
theorem tameL_of {xs : List D} (h : ∀ x ∈ xs, x.plain = true ∧ x.py.canLay0 = true ∧ x.py.depth ≤ 39) : (D.lst xs).tame = true := by
  have h1 : D.plainL xs = true := by rw [D.plainL_all, List.all_eq_true]; exact fun x hx => (h x hx).1
  have h2 : PyData.canLayAll0 (D.pyL xs) = true := by rw [canLayAll_map, List.all_eq_true]; exact fun x hx => (h x hx).2.1
  have h3 : PyData.depthAll (D.pyL xs) ≤ 39 := (depthAll_le xs).mpr fun x hx => (h x hx).2.2
  exact tame_of ⟨h1, h2, show PyData.depthAll (D.pyL xs) + 1 ≤ 40 by omega⟩
theorem repL_one {x : D} {n : Nat} : repL [x] n = List.replicate n x := by
  unfold repL
  induction n with
  | zero => rfl
  | succ n ih => rw [List.replicate_succ, List.flatten_cons, ih]; rfl
theorem rep_int {a : Int} {n : Nat} : List.replicate n (D.int a) = (List.replicate n a).map D.int := by rw [List.map_replicate]
/-! draws -/
structure Draw where
  whole : Int
  cells : List Int
  count : Int
def drawD (d : Draw) : D := .dic [.str "whole", .str "cells", .str "count"] [.int d.whole, .lst (d.cells.map .int), .int d.count]
def DrawOk (d : Draw) : Prop := d.cells.length ≤ 63
theorem draw_whole {d : Draw} : idx (drawD d) (.str "whole") = some (.int d.whole) := rfl
theorem draw_cells {d : Draw} : idx (drawD d) (.str "cells") = some (.lst (d.cells.map .int)) := rfl
theorem draw_count {d : Draw} : idx (drawD d) (.str "count") = some (.int d.count) := rfl
theorem draw_setw {d : Draw} {i : Int} : store (drawD d) (.str "whole") (.int i) = some (drawD { d with whole := i }) := rfl
theorem draw_setc {d : Draw} {i : Int} : store (drawD d) (.str "count") (.int i) = some (drawD { d with count := i }) := rfl
theorem mulOk_r {a b : Int} (h : -(2 ^ 64) < b ∧ b < 2 ^ 64) : mulOk a b = true := by
  have := IntMulOk.of_right (a := a) (intBits_le_64 h.1 h.2)
  unfold mulOk
  exact (Bool.not_eq_true' _).mpr (eq_false_of_ne_true this)
theorem mulOk_l {a b : Int} (h : -(2 ^ 64) < a ∧ a < 2 ^ 64) : mulOk a b = true := by
  have := IntMulOk.of_left (b := b) (intBits_le_64 h.1 h.2)
  unfold mulOk
  exact (Bool.not_eq_true' _).mpr (eq_false_of_ne_true this)
theorem mulOk_bits {a b : Int} {x y : Nat} (ha : a.natAbs < 2 ^ x) (hb : b.natAbs < 2 ^ y) (h : x + y ≤ 134217728) : mulOk a b = true := by
  have hx : ∀ {c : Int} {z : Nat}, c.natAbs < 2 ^ z → Builtin.Int.intBits c ≤ z := by
    intro c z hc
    unfold Builtin.Int.intBits
    split
    · exact Nat.zero_le _
    · rename_i h0
      have hc0 : c.natAbs ≠ 0 := by simp at h0; omega
      have := (Nat.log2_lt hc0).mpr hc
      omega
  have h1 := hx ha
  have h2 := hx hb
  unfold mulOk Builtin.Int.intTooBig bitsLine
  have h3 : ¬ (((Builtin.Int.intBits a : Nat) : Int) + ((Builtin.Int.intBits b : Nat) : Int) > ((2 ^ 27 : Nat) : Int)) := by
    have : (2 ^ 27 : Nat) = 134217728 := by decide
    rw [this]
    omega
  simp only [gt_iff_lt, Bool.not_eq_true', Bool.and_eq_false_iff, decide_eq_false_iff_not]
  right
  exact h3
end Mini

/- S5 -/
set_option Elab.async false
set_option linter.all false
set_option maxRecDepth 100000
/-! S5: sorting by encodings. -/
namespace Mini
open PySem
variable {F : Ifc} {ρ : Env} {α β : Type}
/-- encodings that keep the order -/
class Srt (e : α → D) [DecidableEq α] [LT α] [DecidableLT α] : Prop where
  alike : ∀ a b, W.alike (e a).py (e b).py = true
  eqv : ∀ a b, D.eqv (e a) (e b) = decide (a = b)
  lt : ∀ a b, W.dataLt (e a).py (e b).py = decide (a < b)
instance : Srt D.int := ⟨fun _ _ => by show W.alike (.int _) (.int _) = true; simp [W.alike], fun _ _ => eqv_int, fun a b => W.dataLt_int a b⟩
theorem alike_map {e : α → D} (h : ∀ a b, W.alike (e a).py (e b).py = true) : ∀ l m : List α, W.alikeAll (D.pyL (l.map e)) (D.pyL (m.map e)) = true
  | [], _ => by simp [D.pyL, W.alikeAll]
  | _ :: _, [] => by simp [D.pyL, W.alikeAll]
  | x :: l, y :: m => by
    show W.alikeAll ((e x).py :: D.pyL (l.map e)) ((e y).py :: D.pyL (m.map e)) = true
    rw [W.alikeAll, h, alike_map h l m]
    rfl
theorem rowLt_map {e : α → D} [DecidableEq α] [LT α] [DecidableLT α] [s : Srt e] : ∀ l m : List α, W.rowLt (D.pyL (l.map e)) (D.pyL (m.map e)) = decide (l < m)
  | [], [] => by
    have q := W.dataLt_ints [] []
    simpa [D.pyL] using q
  | [], y :: m => by
    have q : W.rowLt [] ((e y).py :: D.pyL (m.map e)) = true := by
      unfold W.rowLt
      rw [W.toks_all_cons]
      simp only [W.keyToksAll]
      rw [PyProof.Rows.lex_diff (O := PyProof.Rows.itemOrd) (by simp)]
      rfl
    show W.rowLt [] ((e y).py :: D.pyL (m.map e)) = _
    rw [q]
    simp
  | x :: l, [] => by
    have q : W.rowLt ((e x).py :: D.pyL (l.map e)) [] = false := by
      unfold W.rowLt
      rw [W.toks_all_cons]
      simp only [W.keyToksAll]
      rw [PyProof.Rows.lex_diff (O := PyProof.Rows.itemOrd) (by simp)]
      rfl
    show W.rowLt ((e x).py :: D.pyL (l.map e)) [] = _
    rw [q]
    simp
  | x :: l, y :: m => by
    have q : W.rowLt ((e x).py :: D.pyL (l.map e)) ((e y).py :: D.pyL (m.map e)) = if PyData.eqv (e x).py (e y).py = true then W.rowLt (D.pyL (l.map e)) (D.pyL (m.map e)) else W.dataLt (e x).py (e y).py := by
      unfold W.rowLt
      rw [W.dataLt_cons (s.alike x y)]
    show W.rowLt ((e x).py :: D.pyL (l.map e)) ((e y).py :: D.pyL (m.map e)) = _
    rw [q, rowLt_map l m, s.lt, show PyData.eqv (e x).py (e y).py = decide (x = y) from s.eqv x y]
    rw [Bool.eq_iff_iff]
    by_cases h : x = y
    · subst h
      simp only [decide_true, if_true, decide_eq_true_eq, List.cons_lt_cons_iff, true_and]
      constructor
      · exact fun z => .inr z
      · rintro (z | z)
        · exfalso
          have := s.lt x x
          rw [decide_eq_true z] at this
          unfold W.dataLt at this
          rw [PyProof.Rows.lex_irrefl] at this
          cases this
        · exact z
    · simp [h, List.cons_lt_cons_iff]
instance {e : α → D} [DecidableEq α] [LT α] [DecidableLT α] [s : Srt e] : Srt (tupE e) :=
  ⟨fun a b => by
    show W.alike (.tuple (D.pyL (a.map e))) (.tuple (D.pyL (b.map e))) = true
    rw [W.alike]
    exact alike_map s.alike a b, fun a b => eqv_map s.eqv a b, fun a b => by
    show W.dataLt (.tuple (D.pyL (a.map e))) (.tuple (D.pyL (b.map e))) = _
    rw [W.dataLt_tuple]
    exact rowLt_map a b⟩
/-- the ascending list -/
def srt [LT α] [DecidableLT α] (l : List α) : List α := l.mergeSort fun a b => !decide (b < a)
theorem sortD_map {e : α → D} [DecidableEq α] [LT α] [DecidableLT α] [s : Srt e] (l : List α) : sortD (l.map e) = (srt l).map e := by
  unfold sortD srt
  rw [List.map_mergeSort (s := dLe)]
  intro a _ b _
  unfold dLe
  rw [s.lt]
theorem srt_perm [LT α] [DecidableLT α] (l : List α) : (srt l).Perm l := List.mergeSort_perm l _
theorem srt_len [LT α] [DecidableLT α] (l : List α) : (srt l).length = l.length := (srt_perm l).length_eq
theorem srt_mem [LT α] [DecidableLT α] {l : List α} {a : α} : a ∈ srt l ↔ a ∈ l := (srt_perm l).mem_iff
theorem sortOk_map {e : α → D} [DecidableEq α] {k : Nat} [c : Cod e k] [LT α] [DecidableLT α] [s : Srt e] {l : List α} (hk : k ≤ 60) (hl : l.length ≤ 16777216)
    (h : l.length ≤ 1 ∧ (∀ a ∈ l, (e a).isN = false) ∨ (∀ a ∈ l, ∃ x r, e a = .tup (x :: r)) ∨ ∀ a ∈ l, (e a).isN = false ∧ (e a).isTup = false) : sortOk (l.map e) = true := by
  unfold sortOk
  have h1 : (l.map e).all (fun x => x.plain && decide (x.py.depth ≤ 60)) = true := by
    rw [List.all_eq_true]
    intro x hx
    obtain ⟨a, _, rfl⟩ := List.mem_map.mp hx
    rw [c.plain, decide_eq_true (Nat.le_trans (c.dep a) hk)]
    rfl
  have h2 : (l.map e).all (fun x => (l.map e).all fun y => W.alike x.py y.py) = true := by
    rw [List.all_eq_true]
    intro x hx
    rw [List.all_eq_true]
    intro y hy
    obtain ⟨a, _, rfl⟩ := List.mem_map.mp hx
    obtain ⟨b, _, rfl⟩ := List.mem_map.mp hy
    exact s.alike a b
  have h3 : decide ((l.map e).length ≤ line) = true := by rw [List.length_map]; exact decide_eq_true hl
  rw [h1, h2, h3, Bool.and_true, Bool.and_true, Bool.true_and]
  rcases h with ⟨h, hn⟩ | h | h
  · rw [List.length_map, decide_eq_true h]
    refine (Bool.or_eq_true _ _).mpr (.inl ((Bool.or_eq_true _ _).mpr (.inl ?_)))
    rw [Bool.true_and, List.all_eq_true]
    intro x hx
    obtain ⟨a, ha, rfl⟩ := List.mem_map.mp hx
    have := hn a ha
    cases q : e a <;> first | rfl | (rw [q] at this; exact Bool.noConfusion this)
  · refine (Bool.or_eq_true _ _).mpr (.inl ((Bool.or_eq_true _ _).mpr (.inr ?_)))
    rw [List.all_eq_true]
    intro x hx
    obtain ⟨a, ha, rfl⟩ := List.mem_map.mp hx
    obtain ⟨y, r, q⟩ := h a ha
    rw [q]
  · refine (Bool.or_eq_true _ _).mpr (.inr ?_)
    rw [List.all_eq_true]
    intro x hx
    obtain ⟨a, ha, rfl⟩ := List.mem_map.mp hx
    have q := h a ha
    cases z : e a <;> first | rfl | (rw [z] at q; exact Bool.noConfusion q.1) | (rw [z] at q; exact Bool.noConfusion q.2)
theorem sorted_map {e : α → D} [DecidableEq α] {k : Nat} [c : Cod e k] [LT α] [DecidableLT α] [s : Srt e] {l : List α} (hk : k ≤ 60) (hl : l.length ≤ 16777216)
    (h : l.length ≤ 1 ∧ (∀ a ∈ l, (e a).isN = false) ∨ (∀ a ∈ l, ∃ x r, e a = .tup (x :: r)) ∨ ∀ a ∈ l, (e a).isN = false ∧ (e a).isTup = false) : bi F .sorted [.lst (l.map e)] = some (.own (.lst ((srt l).map e))) := by
  rw [bi_sorted (sortOk_map hk hl h), sortD_map]
/-- tuples, none empty, or one at most -/
theorem sorted_tups {e : α → D} [DecidableEq α] {k : Nat} [c : Cod e k] [LT α] [DecidableLT α] [s : Srt e] {l : List (List α)} (hk : k + 1 ≤ 60) (hl : l.length ≤ 16777216)
    (h : l.length ≤ 1 ∨ ∀ a ∈ l, a ≠ []) : bi F .sorted [.lst (l.map (tupE e))] = some (.own (.lst ((srt l).map (tupE e)))) := by
  refine sorted_map hk hl ?_
  rcases h with h | h
  · exact .inl ⟨h, fun a _ => rfl⟩
  · refine .inr (.inl fun a ha => ?_)
    cases a with
    | nil => exact absurd rfl (h _ ha)
    | cons x r => exact ⟨e x, r.map e, rfl⟩
theorem sorted_ints {l : List Int} (hl : l.length ≤ 16777216) : bi F .sorted [.lst (l.map D.int)] = some (.own (.lst ((srt l).map D.int))) :=
  sorted_map (by omega) hl (.inr (.inr fun a _ => ⟨rfl, rfl⟩))
theorem lex_le_total (a b : List Int) : (!decide (b < a) || !decide (a < b)) = true := by
  by_cases h : b < a
  · have : ¬ a < b := fun z => absurd (List.lt_trans z h) (List.lt_irrefl a)
    simp [h, this]
  · simp [h]
theorem lex_le_trans (a b c : List Int) (h1 : (!decide (b < a)) = true) (h2 : (!decide (c < b)) = true) : (!decide (c < a)) = true := by
  simp only [Bool.not_eq_true', decide_eq_false_iff_not, List.not_lt] at h1 h2 ⊢
  exact List.le_trans h1 h2
theorem srt_pairwise (l : List (List Int)) : (srt l).Pairwise fun a b => (!decide (b < a)) = true := List.pairwise_mergeSort lex_le_trans lex_le_total l
theorem srt_of_perm {l m : List (List Int)} (h : l.Perm m) : srt l = srt m := by
  refine List.Perm.eq_of_pairwise (fun a b _ _ h1 h2 => ?_) (srt_pairwise l) (srt_pairwise m) (((srt_perm l).trans h).trans (srt_perm m).symm)
  simp only [Bool.not_eq_true', decide_eq_false_iff_not, List.not_lt] at h1 h2
  exact List.le_antisymm h1 h2
theorem srt_srt (l : List (List Int)) : srt (srt l) = srt l := srt_of_perm (srt_perm l)
/-! a return out of a loop -/
def rtP (k : Nat) (r : SRes) (d : RV) : Prop := match r with
  | .rt x ρ => x = d ∧ ρ.length = k
  | _ => False
theorem rtP_rt {k : Nat} {x d : RV} : rtP k (.rt x ρ) d = (x = d ∧ ρ.length = k) := rfl
theorem rtP_then {k : Nat} {r : SRes} {d : RV} {f : Env → SRes} (h : rtP k r d) : rtP k (r.then f) d := by
  cases r <;> first | exact h | exact h.elim
theorem rtP_for {k : Nat} {r : SRes} {d : RV} {ρ₀ : Env} {is : List Nat} (h : rtP k r d) : rtP k (forEnd ρ₀ is r) d := by
  cases r with
  | rt x ρ => exact ⟨h.1, by rw [unlock_length]; exact h.2⟩
  | _ => exact h.elim
theorem rtP_loop {k : Nat} {st : D → Env → SRes} {xs : List D} {r : SRes} {d : RV} (h : rtP k r d) : rtP k (loopK st xs r) d := by
  cases r <;> first | exact h | exact h.elim
theorem outs_len : ∀ {bs : List Bool} {ss : List Slot}, bs.all (fun b => !b) = true → bs.length ≤ ss.length → outsOf bs ss = some []
  | [], _, _, _ => by cases ‹List Slot› <;> rfl
  | true :: _, _, h, _ => by simp at h
  | false :: bs, [], _, h => absurd h (by simp)
  | false :: bs, s :: ss, h, hl => outs_len (bs := bs) (ss := ss) (by simpa using h) (by simpa using hl)
theorem finF_rtP {bs : List Bool} {k : Nat} {r : SRes} {d : RV} (h : rtP k r d) (hb : bs.all (fun b => !b) = true) (hl : bs.length ≤ k) : finF bs r = .ok d [] := by
  cases r with
  | rt x ρ =>
    rw [finF_rt, outs_len hb (by rw [h.2]; exact hl), okC_s, h.1]
  | _ => exact h.elim
/-! names that may be stored in -/
def okS (s : Slot) : Prop := s = .no ∨ ∃ v, s = .val v
theorem okS_no : okS .no := .inl rfl
theorem okS_val {v : D} : okS (.val v) := .inr ⟨v, rfl⟩
theorem putS_okS {s : Slot} {i : Nat} {r : RV} (h : okS s) : putS (some s) i r ρ = some (ρ.set i (slotOf r)) := by
  rcases h with rfl | ⟨_, rfl⟩ <;> rfl
end Mini

/- N00 -/
local macro_rules
  | `(tactic| simp! [$as,*]) => `(tactic| simp -implicitDefEqProofs (disch := (first | assumption | omega | (simp only [List.length_map, List.length_append, List.length_cons, List.length_nil, List.length_range, List.length_reverse, List.length_take, List.length_drop, List.length_replicate]; done) | exact id rfl | (refine Mini.mulOk_l ?_; omega) | (refine Mini.mulOk_r ?_; omega) | (simp only [List.length_map, List.length_append, List.length_cons, List.length_nil, List.length_range, List.length_reverse, List.length_take, List.length_drop, List.length_replicate]; omega))) only [Mini.takeS_val, Mini.takeS_own, Mini.look_val, Mini.look_own, Mini.look_ref, Mini.look_lk, Mini.slotOf_val, Mini.slotOf_own, Mini.putS_no, Mini.putS_val, Mini.putS_own, Mini.changeS_own, Mini.changeS_ref, Mini.ownedS_own, Mini.ownedS_ref, Mini.fetch_sl, Mini.fetch_v, Mini.fetch_t, Mini.consO_s, Mini.fetchAll_nil, Mini.fetchAll_cons, Mini.asg_sl, Mini.asg_tp, Mini.asgs_nil, Mini.asgK_s, Mini.asgs_cons, Mini.RV_val, Mini.RV_own, Mini.kD_s, Mini.kV_s, Mini.kVal_s, Mini.ev_vV, Mini.slotO_s, Mini.vO_slot, Mini.vO_lit, Mini.vO_glob, Mini.vO_op, Mini.vO_neg, Mini.vO_not, Mini.vO_and, Mini.vO_or, Mini.vO_cmp, Mini.vO_chain, Mini.vO_ite, Mini.vO_tup, Mini.vO_lst, Mini.vO_dict, Mini.vO_idx, Mini.vO_slice, Mini.vO_rev, Mini.vO_call, Mini.vO_callv, Mini.vO_bi, Mini.vO_pop, Mini.vO_comp, Mini.vO_comp2, Mini.vO_range, Mini.vO_enum, Mini.vO_zip, Mini.vO_attr, Mini.vO_caught, Mini.truO_s, Mini.kTru_s, Mini.ev_vT, Mini.kP_s, Mini.ev_vP, Mini.optI_non, Mini.optI_int, Mini.seqO_s, Mini.kIt_s, Mini.ev_vIt, Mini.kCons_s, Mini.kApp_s, Mini.kVs_s, Mini.vVs_nil, Mini.vVs_cons, Mini.kOcons_s, Mini.kOs_s, Mini.vOs_nil, Mini.vOs_cons, Mini.kSf_s, Mini.kSt2_s, Mini.kSt_s, Mini.spr_nil, Mini.spr_f, Mini.spr_t, Mini.kAf_s, Mini.lentS_s, Mini.vAs_t, Mini.vAs_f, Mini.vAs_nil, Mini.kKV3_s, Mini.kKV2_s, Mini.kKV_s, Mini.vKV_nil, Mini.vKV_cons, Mini.kTs_t, Mini.kTs_f, Mini.vTs_nil, Mini.vTs_cons, Mini.kRcons_s, Mini.kRs_s, Mini.vRs_nil, Mini.vRs_cons, Mini.Res.of_none, Mini.Res.of_some', Mini.bind_ok', Mini.bind_ex', Mini.bind_bad', Mini.ev_slot, Mini.ev_lit, Mini.ev_glob, Mini.opO_s, Mini.kOp2_s, Mini.kOp_s, Mini.ev_op, Mini.negO_int, Mini.kNeg_s, Mini.ev_neg, Mini.notO_s, Mini.kNot_s, Mini.ev_not, Mini.kLastB_s, Mini.ev_and, Mini.ev_or, Mini.blO_s, Mini.cmpO_s, Mini.kCmp2_s, Mini.kCmp_s, Mini.ev_cmp, Mini.kCh2_s, Mini.kCh_s, Mini.ev_chain, Mini.kRet_s, Mini.kVRet_s, Mini.ev_ite, Mini.kTup_s, Mini.kLst_s, Mini.ev_tup, Mini.ev_lst, Mini.kDict_s, Mini.ev_dict, Mini.idxO_s, Mini.valO_s, Mini.kIdx2_s, Mini.kIdx_s, Mini.ev_idx, Mini.slO_s, Mini.kSl3_s, Mini.kSl2_s, Mini.kSl_s, Mini.ev_slice, Mini.revO_s, Mini.kRev_s, Mini.ev_rev, Mini.kCall3_s, Mini.kCall2_s, Mini.kCall_s, Mini.ev_call, Mini.giveE_s, Mini.giveX_s, Mini.callR_ok, Mini.callR_ex, Mini.callD_s, Mini.give_nil, Mini.give_f, Mini.giveK_s, Mini.give_t, Mini.lent_nil, Mini.lent_f, Mini.lent_t, Mini.lentT_nil, Mini.lentT_s, Mini.kCv2_s, Mini.ev_callv, Mini.biO_s, Mini.kBi_s, Mini.ev_bi, Mini.lstO_s, Mini.kRange_s, Mini.ev_range, Mini.enumO_s, Mini.kEnum_s, Mini.ev_enum, Mini.zipS_s, Mini.zipO_s, Mini.kZip_s, Mini.ev_zip, Mini.okO_s, Mini.appS_l, Mini.kAppend_s, Mini.appI_s, Mini.ev_app, Mini.popL_s, Mini.popS_l, Mini.ev_pop, Mini.ev_caught, Mini.caughtR_ok, Mini.caughtR_ex, Mini.to_ok', Mini.to_ex', Mini.ofO_some, Mini.kSet_s, Mini.st_set, Mini.kPuts_s, Mini.st_setP, Mini.puts_nil, Mini.putsK_s, Mini.puts_cons, Mini.setTS_t, Mini.kSetT_s, Mini.st_setT, Mini.storO_s, Mini.chgO_s, Mini.storeE_s, Mini.kSeti3_s, Mini.seti2_s, Mini.kSeti_s, Mini.st_seti, Mini.augS_add, Mini.augS_sub, Mini.kAug_s, Mini.augL_s, Mini.st_aug, Mini.kNx_s, Mini.st_expr, Mini.retS_own, Mini.retS_val, Mini.kRt_s, Mini.retE_slot, Mini.st_ret, Mini.st_retN, Mini.kIf_t, Mini.kIf_f, Mini.st_ifs, Mini.kRaise_n, Mini.kRaise_t, Mini.st_raise, Mini.st_brk, Mini.st_cont, Mini.st_pass, Mini.st_nil, Mini.st_cons, Mini.then_nx', Mini.then_rt', Mini.then_bk', Mini.then_ct', Mini.then_ex', Mini.turnS_s, Mini.forEnd_nx, Mini.forEnd_bk, Mini.forEnd_rt, Mini.forEnd_ex, Mini.kFor_s, Mini.st_for, Mini.loopK_nx, Mini.loopK_ct, Mini.loopK_bk, Mini.loopK_rt, Mini.loopK_ex, Mini.lockS_own, Mini.lockS_ref, Mini.lockS_val, Mini.lockS_lk, Mini.lock_nil, Mini.lock_cons, Mini.unlockS_own, Mini.unlockS_ref, Mini.unlockS_val, Mini.unlockS_lk, Mini.unlock_nil, Mini.unlock_cons, Mini.walked_slot, Mini.walked_range, Mini.walked_call, Mini.walked_lst, Mini.walked_tup, Mini.walked_op, Mini.walked_rev, Mini.walked_slice, Mini.walked_idx, Mini.walked_bi, Mini.walked_comp, Mini.walked_comp2, Mini.tru_non, Mini.tru_bl, Mini.tru_int, Mini.tru_tup, Mini.tru_lst, Mini.op_add, Mini.op_sub, Mini.op_addT, Mini.op_addL, Mini.op_mul, Mini.op_mulT, Mini.op_mulL, Mini.op_mod, Mini.op_pow, Mini.cmp_lt, Mini.cmp_le, Mini.cmp_gt, Mini.cmp_ge, Mini.cmp_isN, Mini.cmp_notN, Mini.cmp_eqI, Mini.cmp_neI, Mini.seqOf_tup, Mini.seqOf_lst, Mini.seqOf_scr, Mini.seqTL_tup, Mini.seqTL_lst, Mini.slice_tup, Mini.slice_lst, Mini.rev_tup, Mini.rev_lst, Mini.idx_tup, Mini.idx_lst, Mini.idx_dicS, Mini.bi_lenT, Mini.bi_lenL, Mini.bi_lenS, Mini.bi_lenD, Mini.bi_intI, Mini.bi_intB, Mini.bi_tupleL, Mini.bi_tupleT, Mini.bi_listL, Mini.bi_listT, Mini.bi_sorted, Mini.intO_s, Mini.bi_sumL, Mini.bi_sumT, Mini.bi_all, Mini.bi_min, Mini.bi_max, Mini.bi_abs, Mini.bi_reprN, Mini.bi_reprB, Mini.putS_okS, Mini.rtP_rt, Mini.arr0, Mini.goP_nx, Mini.goP_ct, Mini.retP_ok, Mini.nxP_nx, Mini.okC_s, Mini.exC_s, Mini.finF_nx, Mini.finF_rt, Mini.finF_ex, Mini.consD_s, Mini.outs_nil, Mini.outs_f, Mini.outs_t, Mini.ifc_call, Mini.map_v0, Mini.map_vc, Mini.map_r0, Mini.map_rc, Mini.kOne_s, Mini.kItem_t, Mini.kItem_f, Mini.itemS_s, Mini.goE_s, Mini.item1_s, Mini.go2_s, Mini.wipe_nil, Mini.wipe_cons, Mini.okW_ok, Mini.ev_comp, Mini.ev_comp2, Mini.goOn_nx, Mini.goOn_ct, Mini.natD_s, Mini.offD_s, Mini.dnD_s, Mini.tup_f, Mini.map_app, Mini.seqOf_tupE, Mini.seqTL_tupE, Mini.tru_tupE, Mini.len_tupE, Mini.list_tupE, Mini.tuple_tupE, Mini.sum_tupI, Mini.all_map, Mini.rev_tupE, Mini.slice_tupE, Mini.slice_lstE, Mini.cutG_nn, Mini.cutG_n, Mini.cutG_s, Mini.cutG_ss, Mini.cutG_last, Mini.rangeD1S, Mini.rangeD2S, Mini.rangeD3S, Mini.cmp_eqT, Mini.cmp_neT, Mini.cmp_eqT0, Mini.cmp_neT0, Mini.cmp_eqL, Mini.cmp_neL, Mini.cmp_eqL0, Mini.cmp_neL0, Mini.cmp_inT, Mini.cmp_ninT, Mini.cmp_inL, Mini.cmp_ninL, Mini.map_consI, Mini.map_consT, Mini.callvS_in, Mini.isi_cls1, Mini.op_addET, Mini.op_addTE, Mini.isInt_tupE, Mini.isBl_tupE, Mini.isStr_tupE, Mini.isLst_tupE, Mini.isDic_tupE, Mini.whole_tupE, Mini.p_isTup_non, Mini.p_isTup_bl, Mini.p_isTup_int, Mini.p_isTup_str, Mini.p_isTup_tup, Mini.p_isTup_lst, Mini.p_isTup_dic, Mini.p_isInt_non, Mini.p_isInt_bl, Mini.p_isInt_int, Mini.p_isInt_str, Mini.p_isInt_tup, Mini.p_isInt_lst, Mini.p_isInt_dic, Mini.p_isBl_non, Mini.p_isBl_bl, Mini.p_isBl_int, Mini.p_isBl_str, Mini.p_isBl_tup, Mini.p_isBl_lst, Mini.p_isBl_dic, Mini.p_isStr_non, Mini.p_isStr_bl, Mini.p_isStr_int, Mini.p_isStr_str, Mini.p_isStr_tup, Mini.p_isStr_lst, Mini.p_isStr_dic, Mini.p_isLst_non, Mini.p_isLst_bl, Mini.p_isLst_int, Mini.p_isLst_str, Mini.p_isLst_tup, Mini.p_isLst_lst, Mini.p_isLst_dic, Mini.p_isDic_non, Mini.p_isDic_bl, Mini.p_isDic_int, Mini.p_isDic_str, Mini.p_isDic_tup, Mini.p_isDic_lst, Mini.p_isDic_dic, Mini.p_whole_non, Mini.p_whole_bl, Mini.p_whole_int, Mini.p_whole_str, Mini.p_whole_tup, Mini.p_whole_lst, Mini.p_whole_dic, Mini.p_isN_non, Mini.p_isN_bl, Mini.p_isN_int, Mini.p_isN_str, Mini.p_isN_tup, Mini.p_isN_lst, Mini.p_isN_dic, Mini.p_isN_tupE, Mini.merge_nil, Mini.op_mulE, Mini.op_addE, Mini.op_addE0, Mini.isTup_tupE, Mini.isTup_tup, Mini.op_fdiv64, Mini.tup_1I, Mini.tup_2I, Mini.tup_3I, Mini.lst_1I, Mini.lst_1T, Mini.tup_1T, Mini.snocI, Mini.snocT, Mini.kAnd_r, Mini.andR_t, Mini.andR_f, Mini.andR_ok, Mini.kOr_r, Mini.orR_t, Mini.orR_f, Mini.orR_ok, Mini.kCh3_r, Mini.chR_t, Mini.chR_f, Mini.chR_ok, Mini.kIte_r, Mini.iteR_t, Mini.iteR_f, Mini.iteR_ok, Mini.ite_int, Mini.ite_tupE, Mini.isInt_notBl, Mini.whole_int, Mini.callG_t, Mini.callF_g, Mini.ret_lit, Mini.ret_glob, Mini.ret_op, Mini.ret_neg, Mini.ret_not, Mini.ret_and, Mini.ret_or, Mini.ret_cmp, Mini.ret_chain, Mini.ret_ite, Mini.ret_tup, Mini.ret_lst, Mini.ret_dict, Mini.ret_idx, Mini.ret_slice, Mini.ret_rev, Mini.ret_call, Mini.ret_bi, Mini.ret_comp, Mini.ret_comp2, Mini.isi_tup, Mini.isi_int, Mini.isi_bool, Mini.isi_str, Mini.isi_lst, Mini.isi_dic, Mini.isi_intI, Mini.isi_boolI, Mini.isi_tupT, Mini.isi_tupE, Mini.isi_clsN, Mini.toNat_cast, Mini.toNat_cast1, eq_self, List.map_id, List.append_assoc, and_self, and_true, true_and, Bool.false_eq_true, List.contains_nil, List.contains_cons, Nat.reduceBEq, Bool.or_false, Bool.or_true, Int.reduceToNat, Int.reduceAdd, Int.reduceSub, Int.reduceMul, Int.reducePow, Int.reduceNeg, Int.reduceLT, Int.reduceLE, Int.reduceEq, Int.reduceMod, Int.reduceDiv, Nat.reduceAdd, Nat.reduceSub, Nat.reduceMul, Nat.reducePow, Nat.reduceLT, Nat.reduceLeDiff, reduceIte, Mini.repL_one, Mini.rep_int, decide_eq_true_eq, Bool.decide_eq_true, List.getElem?_cons_zero, List.getElem?_cons_succ, List.set_cons_zero, List.set_cons_succ, List.append_nil, List.nil_append, List.cons_append, Bool.not_true, Bool.not_false, Bool.true_and, Bool.false_and, Bool.and_true, Bool.and_false, Bool.true_or, Bool.false_or, if_true, if_false, ite_true, ite_false, decide_true, decide_false, Option.map_some, $as,*])
set_option Elab.async false
set_option linter.all false
set_option maxRecDepth 100000
set_option maxHeartbeats 0
namespace Mini
open PySem
def f_is_whole_body : List S := [.ret (.andE (.bi (.isi .int) [.slot 0]) (.notE (.bi (.isi .bool) [.slot 0])))]

def f_is_whole : Fn where
  name := "is_whole"
  pars := ["thing"]
  dfl := []
  ino := [false]
  N := ["thing"]
  body := f_is_whole_body

class H_f_is_whole (P : Prog) : Prop where
  findf_is_whole : P.find "is_whole" = some f_is_whole
theorem inof_is_whole {P : Prog} [h : H_f_is_whole P] {c : Str → List D → CRes} : (P.ifc c).ino "is_whole" = [false] := ifc_ino h.findf_is_whole
theorem parsf_is_whole {P : Prog} [h : H_f_is_whole P] {c : Str → List D → CRes} : (P.ifc c).pars "is_whole" = (["thing"] : List Str) := ifc_pars h.findf_is_whole
theorem dflf_is_whole {P : Prog} [h : H_f_is_whole P] {c : Str → List D → CRes} : (P.ifc c).dfl "is_whole" = ([] : List D) := ifc_dfl h.findf_is_whole
theorem runf_is_whole {P : Prog} [h : H_f_is_whole P] {n : Nat} {a0 : D} : P.call (n + 1) "is_whole" [a0] = finF [false] (denB (P.ifc (P.call n)) f_is_whole_body [.val a0]) := call_run h.findf_is_whole rfl

def f_is_hues_body : List S := [.ret (.andE (.call "is_whole" [.slot 0] [] []) (.chain .le .le (.lit (.int 1)) (.slot 0) (.glob "MOST_HUES")))]

def f_is_hues : Fn where
  name := "is_hues"
  pars := ["thing"]
  dfl := []
  ino := [false]
  N := ["thing"]
  body := f_is_hues_body

class H_f_is_hues (P : Prog) : Prop extends H_f_is_whole P where
  findf_is_hues : P.find "is_hues" = some f_is_hues
  globf_is_hues_MOST_HUES : P.globs.lookup ("MOST_HUES" : Str) = some (D.int 3)
theorem inof_is_hues {P : Prog} [h : H_f_is_hues P] {c : Str → List D → CRes} : (P.ifc c).ino "is_hues" = [false] := ifc_ino h.findf_is_hues
theorem parsf_is_hues {P : Prog} [h : H_f_is_hues P] {c : Str → List D → CRes} : (P.ifc c).pars "is_hues" = (["thing"] : List Str) := ifc_pars h.findf_is_hues
theorem dflf_is_hues {P : Prog} [h : H_f_is_hues P] {c : Str → List D → CRes} : (P.ifc c).dfl "is_hues" = ([] : List D) := ifc_dfl h.findf_is_hues
theorem runf_is_hues {P : Prog} [h : H_f_is_hues P] {n : Nat} {a0 : D} : P.call (n + 1) "is_hues" [a0] = finF [false] (denB (P.ifc (P.call n)) f_is_hues_body [.val a0]) := call_run h.findf_is_hues rfl
theorem glf_is_hues_MOST_HUES {P : Prog} [h : H_f_is_hues P] {c : Str → List D → CRes} : (P.ifc c).glob "MOST_HUES" = some (D.int 3) := ifc_glob h.globf_is_hues_MOST_HUES

def f_need_hues_body : List S := [.ifs (.notE (.call "is_hues" [.slot 0] [] [])) [.raise "BadHues" [.lit (.str "no number from 1 to 3")]] []]

def f_need_hues : Fn where
  name := "need_hues"
  pars := ["hues"]
  dfl := []
  ino := [false]
  N := ["hues"]
  body := f_need_hues_body

class H_f_need_hues (P : Prog) : Prop extends H_f_is_hues P where
  findf_need_hues : P.find "need_hues" = some f_need_hues
theorem inof_need_hues {P : Prog} [h : H_f_need_hues P] {c : Str → List D → CRes} : (P.ifc c).ino "need_hues" = [false] := ifc_ino h.findf_need_hues
theorem parsf_need_hues {P : Prog} [h : H_f_need_hues P] {c : Str → List D → CRes} : (P.ifc c).pars "need_hues" = (["hues"] : List Str) := ifc_pars h.findf_need_hues
theorem dflf_need_hues {P : Prog} [h : H_f_need_hues P] {c : Str → List D → CRes} : (P.ifc c).dfl "need_hues" = ([] : List D) := ifc_dfl h.findf_need_hues
theorem runf_need_hues {P : Prog} [h : H_f_need_hues P] {n : Nat} {a0 : D} : P.call (n + 1) "need_hues" [a0] = finF [false] (denB (P.ifc (P.call n)) f_need_hues_body [.val a0]) := call_run h.findf_need_hues rfl

def f_size_of_body : List S := [.ret (.bi .sum [.comp [1] (.sl 1) (.slot 0) [] (.ite (.cmp .eq (.slot 1) (.lit (.int 0))) (.lit (.int 2)) (.lit (.int 1)))])]

def f_size_of : Fn where
  name := "size_of"
  pars := ["row"]
  dfl := []
  ino := [false]
  N := ["row", "letter"]
  body := f_size_of_body

class H_f_size_of (P : Prog) : Prop where
  findf_size_of : P.find "size_of" = some f_size_of
theorem inof_size_of {P : Prog} [h : H_f_size_of P] {c : Str → List D → CRes} : (P.ifc c).ino "size_of" = [false] := ifc_ino h.findf_size_of
theorem parsf_size_of {P : Prog} [h : H_f_size_of P] {c : Str → List D → CRes} : (P.ifc c).pars "size_of" = (["row"] : List Str) := ifc_pars h.findf_size_of
theorem dflf_size_of {P : Prog} [h : H_f_size_of P] {c : Str → List D → CRes} : (P.ifc c).dfl "size_of" = ([] : List D) := ifc_dfl h.findf_size_of
theorem runf_size_of {P : Prog} [h : H_f_size_of P] {n : Nat} {a0 : D} : P.call (n + 1) "size_of" [a0] = finF [false] (denB (P.ifc (P.call n)) f_size_of_body [.val a0, .no]) := call_run h.findf_size_of rfl

def f_is_row_of_body : List S := [.ifs (.orE (.notE (.bi (.isi .tup) [.slot 1])) (.notE (.bi .all [.comp [2] (.sl 2) (.slot 1) [] (.andE (.call "is_whole" [.slot 2] [] []) (.chain .le .le (.lit (.int 0)) (.slot 2) (.slot 0)))]))) [.ret (.lit (.bl false))] [],
    .ret (.cmp .le (.call "size_of" [.slot 1] [] []) (.glob "MOST_SIZE"))]

def f_is_row_of : Fn where
  name := "is_row_of"
  pars := ["hues", "thing"]
  dfl := []
  ino := [false, false]
  N := ["hues", "thing", "letter"]
  body := f_is_row_of_body

class H_f_is_row_of (P : Prog) : Prop extends H_f_size_of P, H_f_is_whole P where
  findf_is_row_of : P.find "is_row_of" = some f_is_row_of
  globf_is_row_of_MOST_SIZE : P.globs.lookup ("MOST_SIZE" : Str) = some (D.int 24)
theorem inof_is_row_of {P : Prog} [h : H_f_is_row_of P] {c : Str → List D → CRes} : (P.ifc c).ino "is_row_of" = [false, false] := ifc_ino h.findf_is_row_of
theorem parsf_is_row_of {P : Prog} [h : H_f_is_row_of P] {c : Str → List D → CRes} : (P.ifc c).pars "is_row_of" = (["hues", "thing"] : List Str) := ifc_pars h.findf_is_row_of
theorem dflf_is_row_of {P : Prog} [h : H_f_is_row_of P] {c : Str → List D → CRes} : (P.ifc c).dfl "is_row_of" = ([] : List D) := ifc_dfl h.findf_is_row_of
theorem runf_is_row_of {P : Prog} [h : H_f_is_row_of P] {n : Nat} {a0 a1 : D} : P.call (n + 1) "is_row_of" [a0, a1] = finF [false, false] (denB (P.ifc (P.call n)) f_is_row_of_body [.val a0, .val a1, .no]) := call_run h.findf_is_row_of rfl
theorem glf_is_row_of_MOST_SIZE {P : Prog} [h : H_f_is_row_of P] {c : Str → List D → CRes} : (P.ifc c).glob "MOST_SIZE" = some (D.int 24) := ifc_glob h.globf_is_row_of_MOST_SIZE

def f_need_row_body : List S := [.ifs (.call "is_row_of" [.slot 0, .slot 1] [] []) [.retN] [],
    .ifs (.cmp .eq (.slot 2) (.lit (.str "one"))) [.raise "BadOne" [.lit (.str "no row")]] [],
    .ifs (.cmp .eq (.slot 2) (.lit (.str "other"))) [.raise "BadOther" [.lit (.str "no row")]] [],
    .raise "BadRow" [.lit (.str "no row")]]

def f_need_row : Fn where
  name := "need_row"
  pars := ["hues", "row", "which"]
  dfl := [.str "row"]
  ino := [false, false, false]
  N := ["hues", "row", "which"]
  body := f_need_row_body

class H_f_need_row (P : Prog) : Prop extends H_f_is_row_of P where
  findf_need_row : P.find "need_row" = some f_need_row
theorem inof_need_row {P : Prog} [h : H_f_need_row P] {c : Str → List D → CRes} : (P.ifc c).ino "need_row" = [false, false, false] := ifc_ino h.findf_need_row
theorem parsf_need_row {P : Prog} [h : H_f_need_row P] {c : Str → List D → CRes} : (P.ifc c).pars "need_row" = (["hues", "row", "which"] : List Str) := ifc_pars h.findf_need_row
theorem dflf_need_row {P : Prog} [h : H_f_need_row P] {c : Str → List D → CRes} : (P.ifc c).dfl "need_row" = ([D.str "row"] : List D) := ifc_dfl h.findf_need_row
theorem runf_need_row {P : Prog} [h : H_f_need_row P] {n : Nat} {a0 a1 a2 : D} : P.call (n + 1) "need_row" [a0, a1, a2] = finF [false, false, false] (denB (P.ifc (P.call n)) f_need_row_body [.val a0, .val a1, .val a2]) := call_run h.findf_need_row rfl

def f_is_row_body : List S := [.expr (.call "need_hues" [.slot 0] [] []),
    .ret (.call "is_row_of" [.slot 0, .slot 1] [] [])]

def f_is_row : Fn where
  name := "is_row"
  pars := ["hues", "thing"]
  dfl := []
  ino := [false, false]
  N := ["hues", "thing"]
  body := f_is_row_body

class H_f_is_row (P : Prog) : Prop extends H_f_need_hues P, H_f_is_row_of P where
  findf_is_row : P.find "is_row" = some f_is_row
theorem inof_is_row {P : Prog} [h : H_f_is_row P] {c : Str → List D → CRes} : (P.ifc c).ino "is_row" = [false, false] := ifc_ino h.findf_is_row
theorem parsf_is_row {P : Prog} [h : H_f_is_row P] {c : Str → List D → CRes} : (P.ifc c).pars "is_row" = (["hues", "thing"] : List Str) := ifc_pars h.findf_is_row
theorem dflf_is_row {P : Prog} [h : H_f_is_row P] {c : Str → List D → CRes} : (P.ifc c).dfl "is_row" = ([] : List D) := ifc_dfl h.findf_is_row
theorem runf_is_row {P : Prog} [h : H_f_is_row P] {n : Nat} {a0 a1 : D} : P.call (n + 1) "is_row" [a0, a1] = finF [false, false] (denB (P.ifc (P.call n)) f_is_row_body [.val a0, .val a1]) := call_run h.findf_is_row rfl

theorem arr_need_row_2 {a0 a1 : Opd} : arrange (["hues", "row", "which"] : List Str) ([Opd.v (D.str "row")] : List Opd) [a0, a1] ([] : List Str) [] = some [a0, a1, Opd.v (D.str "row")] := by rfl

def f_size_body : List S := [.expr (.call "need_hues" [.slot 0] [] []),
    .expr (.call "need_row" [.slot 0, .slot 1] [] []),
    .ret (.call "size_of" [.slot 1] [] [])]

def f_size : Fn where
  name := "size"
  pars := ["hues", "row"]
  dfl := []
  ino := [false, false]
  N := ["hues", "row"]
  body := f_size_body

class H_f_size (P : Prog) : Prop extends H_f_need_hues P, H_f_need_row P, H_f_size_of P where
  findf_size : P.find "size" = some f_size
theorem inof_size {P : Prog} [h : H_f_size P] {c : Str → List D → CRes} : (P.ifc c).ino "size" = [false, false] := ifc_ino h.findf_size
theorem parsf_size {P : Prog} [h : H_f_size P] {c : Str → List D → CRes} : (P.ifc c).pars "size" = (["hues", "row"] : List Str) := ifc_pars h.findf_size
theorem dflf_size {P : Prog} [h : H_f_size P] {c : Str → List D → CRes} : (P.ifc c).dfl "size" = ([] : List D) := ifc_dfl h.findf_size
theorem runf_size {P : Prog} [h : H_f_size P] {n : Nat} {a0 a1 : D} : P.call (n + 1) "size" [a0, a1] = finF [false, false] (denB (P.ifc (P.call n)) f_size_body [.val a0, .val a1]) := call_run h.findf_size rfl

def f_law_begun_b1 : List S := [.ifs (.bi (.isi .int) [.slot 3]) [.ifs (.cmp .ge (.slot 3) (.op .pow (.lit (.int 10)) (.lit (.int 18)))) [.set 1 (.op .add (.op .mul (.slot 1) (.op .add (.op .sub (.slot 3) (.op .pow (.lit (.int 10)) (.lit (.int 18)))) (.lit (.int 1)))) (.op .sub (.slot 3) (.op .pow (.lit (.int 10)) (.lit (.int 18)))))] [], .expr (.app 2 (.slot 3))] []]

def f_law_begun_body : List S := [.setP [1, 2] [.lit (.int 0), .lst [] []],
    .forS (.sl 3) (.slot 0) f_law_begun_b1,
    .ret (.dict [.lit (.str "whole"), .lit (.str "cells"), .lit (.str "count")] [.slot 1, .slot 2, .lit (.int 0)])]

def f_law_begun : Fn where
  name := "_law_begun"
  pars := ["script"]
  dfl := []
  ino := [false]
  N := ["script", "whole", "cells", "cell"]
  body := f_law_begun_body

class H_f_law_begun (P : Prog) : Prop where
  findf_law_begun : P.find "_law_begun" = some f_law_begun
theorem inof_law_begun {P : Prog} [h : H_f_law_begun P] {c : Str → List D → CRes} : (P.ifc c).ino "_law_begun" = [false] := ifc_ino h.findf_law_begun
theorem parsf_law_begun {P : Prog} [h : H_f_law_begun P] {c : Str → List D → CRes} : (P.ifc c).pars "_law_begun" = (["script"] : List Str) := ifc_pars h.findf_law_begun
theorem dflf_law_begun {P : Prog} [h : H_f_law_begun P] {c : Str → List D → CRes} : (P.ifc c).dfl "_law_begun" = ([] : List D) := ifc_dfl h.findf_law_begun
theorem runf_law_begun {P : Prog} [h : H_f_law_begun P] {n : Nat} {a0 : D} : P.call (n + 1) "_law_begun" [a0] = finF [false] (denB (P.ifc (P.call n)) f_law_begun_body [.val a0, .no, .no, .no]) := call_run h.findf_law_begun rfl

def f_law_mixed_b1 : List S := [.set 1 (.op .mod (.bi .int [.op .mul (.op .add (.slot 1) (.slot 2)) (.lit (.int 1099511628211))]) (.op .sub (.op .pow (.lit (.int 2)) (.lit (.int 61))) (.lit (.int 1)))),
    .set 1 (.op .add (.slot 1) (.op .fdiv (.slot 1) (.op .pow (.lit (.int 2)) (.lit (.int 17)))))]

def f_law_mixed_body : List S := [.seti 0 (.lit (.str "count")) (.op .add (.idx (.slot 0) (.lit (.str "count"))) (.lit (.int 1))),
    .set 1 (.op .add (.lit (.int 1469598103934665603)) (.op .mul (.lit (.int 97)) (.idx (.slot 0) (.lit (.str "count"))))),
    .forS (.sl 2) (.op .add (.idx (.slot 0) (.lit (.str "cells"))) (.lst [false] [.idx (.slot 0) (.lit (.str "count"))])) f_law_mixed_b1,
    .ret (.slot 1)]

def f_law_mixed : Fn where
  name := "_law_mixed"
  pars := ["draw"]
  dfl := []
  ino := [true]
  N := ["draw", "found", "cell"]
  body := f_law_mixed_body

class H_f_law_mixed (P : Prog) : Prop where
  findf_law_mixed : P.find "_law_mixed" = some f_law_mixed
theorem inof_law_mixed {P : Prog} [h : H_f_law_mixed P] {c : Str → List D → CRes} : (P.ifc c).ino "_law_mixed" = [true] := ifc_ino h.findf_law_mixed
theorem parsf_law_mixed {P : Prog} [h : H_f_law_mixed P] {c : Str → List D → CRes} : (P.ifc c).pars "_law_mixed" = (["draw"] : List Str) := ifc_pars h.findf_law_mixed
theorem dflf_law_mixed {P : Prog} [h : H_f_law_mixed P] {c : Str → List D → CRes} : (P.ifc c).dfl "_law_mixed" = ([] : List D) := ifc_dfl h.findf_law_mixed
theorem runf_law_mixed {P : Prog} [h : H_f_law_mixed P] {n : Nat} {a0 : D} : P.call (n + 1) "_law_mixed" [a0] = finF [true] (denB (P.ifc (P.call n)) f_law_mixed_body [.ref a0, .no, .no]) := call_run h.findf_law_mixed rfl

def f_law_take_b1 : List S := [.set 2 (.op .add (.op .mul (.slot 2) (.op .pow (.lit (.int 2)) (.lit (.int 61)))) (.call "_law_mixed" [.slot 0] [] []))]

def f_law_take_body : List S := [.ifs (.cmp .lt (.slot 1) (.lit (.int 2))) [.ret (.lit (.int 0))] [],
    .ifs (.cmp .gt (.idx (.slot 0) (.lit (.str "whole"))) (.lit (.int 0))) [.set 2 (.op .mod (.bi .int [.idx (.slot 0) (.lit (.str "whole"))]) (.slot 1)), .seti 0 (.lit (.str "whole")) (.op .fdiv (.idx (.slot 0) (.lit (.str "whole"))) (.slot 1)), .ret (.slot 2)] [],
    .set 2 (.call "_law_mixed" [.slot 0] [] []),
    .whl (.andE (.cmp .gt (.slot 1) (.op .pow (.lit (.int 2)) (.lit (.int 50)))) (.cmp .lt (.slot 2) (.op .mul (.slot 1) (.slot 1)))) f_law_take_b1,
    .ret (.op .mod (.bi .int [.op .fdiv (.slot 2) (.lit (.int 1024))]) (.slot 1))]

def f_law_take : Fn where
  name := "_law_take"
  pars := ["draw", "amount"]
  dfl := []
  ino := [true, false]
  N := ["draw", "amount", "found"]
  body := f_law_take_body

class H_f_law_take (P : Prog) : Prop extends H_f_law_mixed P where
  findf_law_take : P.find "_law_take" = some f_law_take
  fuelf_law_take : 1000000000 ≤ P.fuel
theorem inof_law_take {P : Prog} [h : H_f_law_take P] {c : Str → List D → CRes} : (P.ifc c).ino "_law_take" = [true, false] := ifc_ino h.findf_law_take
theorem parsf_law_take {P : Prog} [h : H_f_law_take P] {c : Str → List D → CRes} : (P.ifc c).pars "_law_take" = (["draw", "amount"] : List Str) := ifc_pars h.findf_law_take
theorem dflf_law_take {P : Prog} [h : H_f_law_take P] {c : Str → List D → CRes} : (P.ifc c).dfl "_law_take" = ([] : List D) := ifc_dfl h.findf_law_take
theorem runf_law_take {P : Prog} [h : H_f_law_take P] {n : Nat} {a0 a1 : D} : P.call (n + 1) "_law_take" [a0, a1] = finF [true, false] (denB (P.ifc (P.call n)) f_law_take_body [.ref a0, .val a1, .no]) := call_run h.findf_law_take rfl

def f_law_pick_body : List S := [.ret (.idx (.slot 1) (.call "_law_take" [.slot 0, .bi .len [.slot 1]] [] []))]

def f_law_pick : Fn where
  name := "_law_pick"
  pars := ["draw", "items"]
  dfl := []
  ino := [true, false]
  N := ["draw", "items"]
  body := f_law_pick_body

class H_f_law_pick (P : Prog) : Prop extends H_f_law_take P where
  findf_law_pick : P.find "_law_pick" = some f_law_pick
theorem inof_law_pick {P : Prog} [h : H_f_law_pick P] {c : Str → List D → CRes} : (P.ifc c).ino "_law_pick" = [true, false] := ifc_ino h.findf_law_pick
theorem parsf_law_pick {P : Prog} [h : H_f_law_pick P] {c : Str → List D → CRes} : (P.ifc c).pars "_law_pick" = (["draw", "items"] : List Str) := ifc_pars h.findf_law_pick
theorem dflf_law_pick {P : Prog} [h : H_f_law_pick P] {c : Str → List D → CRes} : (P.ifc c).dfl "_law_pick" = ([] : List D) := ifc_dfl h.findf_law_pick
theorem runf_law_pick {P : Prog} [h : H_f_law_pick P] {n : Nat} {a0 a1 : D} : P.call (n + 1) "_law_pick" [a0, a1] = finF [true, false] (denB (P.ifc (P.call n)) f_law_pick_body [.ref a0, .val a1]) := call_run h.findf_law_pick rfl

def f_law_kinds_b1 : List S := [.set 3 (.pop 2),
    .ifs (.orE (.bi (.isi .bool) [.slot 3]) (.cmp .isN (.slot 3) (.lit (.non)))) [.expr (.app 1 (.bi .repr [.slot 3]))] [.ifs (.bi (.isi .int) [.slot 3]) [.expr (.app 1 (.lit (.str "number")))] [.ifs (.bi (.isi .str) [.slot 3]) [.expr (.app 1 (.lit (.str "string")))] [.ifs (.orE (.bi (.isi .lst) [.slot 3]) (.bi (.isi .tup) [.slot 3])) [.expr (.app 1 (.ite (.bi (.isi .lst) [.slot 3]) (.lit (.str "list")) (.lit (.str "tuple")))), .set 2 (.op .add (.slot 2) (.bi .list [.slot 3]))] [.ifs (.bi (.isi .dic) [.slot 3]) [.expr (.app 1 (.lit (.str "dict"))), .never] [.expr (.app 1 (.lit (.str "other")))]]]]]]

def f_law_kinds_body : List S := [.setP [1, 2] [.lst [] [], .lst [false] [.slot 0]],
    .whl (.cmp .ne (.slot 2) (.lst [] [])) f_law_kinds_b1,
    .ret (.slot 1)]

def f_law_kinds : Fn where
  name := "_law_kinds"
  pars := ["thing"]
  dfl := []
  ino := [false]
  N := ["thing", "found", "line", "one", "key"]
  body := f_law_kinds_body

class H_f_law_kinds (P : Prog) : Prop where
  findf_law_kinds : P.find "_law_kinds" = some f_law_kinds
  fuelf_law_kinds : 1000000000 ≤ P.fuel
theorem inof_law_kinds {P : Prog} [h : H_f_law_kinds P] {c : Str → List D → CRes} : (P.ifc c).ino "_law_kinds" = [false] := ifc_ino h.findf_law_kinds
theorem parsf_law_kinds {P : Prog} [h : H_f_law_kinds P] {c : Str → List D → CRes} : (P.ifc c).pars "_law_kinds" = (["thing"] : List Str) := ifc_pars h.findf_law_kinds
theorem dflf_law_kinds {P : Prog} [h : H_f_law_kinds P] {c : Str → List D → CRes} : (P.ifc c).dfl "_law_kinds" = ([] : List D) := ifc_dfl h.findf_law_kinds
theorem runf_law_kinds {P : Prog} [h : H_f_law_kinds P] {n : Nat} {a0 : D} : P.call (n + 1) "_law_kinds" [a0] = finF [false] (denB (P.ifc (P.call n)) f_law_kinds_body [.val a0, .no, .no, .no, .no]) := call_run h.findf_law_kinds rfl

def f_law_says_body : List S := [.ret (.andE (.cmp .eq (.call "_law_kinds" [.slot 0] [] []) (.call "_law_kinds" [.slot 1] [] [])) (.cmp .eq (.slot 0) (.slot 1)))]

def f_law_says : Fn where
  name := "_law_says"
  pars := ["told", "due"]
  dfl := []
  ino := [false, false]
  N := ["told", "due"]
  body := f_law_says_body

class H_f_law_says (P : Prog) : Prop extends H_f_law_kinds P where
  findf_law_says : P.find "_law_says" = some f_law_says
theorem inof_law_says {P : Prog} [h : H_f_law_says P] {c : Str → List D → CRes} : (P.ifc c).ino "_law_says" = [false, false] := ifc_ino h.findf_law_says
theorem parsf_law_says {P : Prog} [h : H_f_law_says P] {c : Str → List D → CRes} : (P.ifc c).pars "_law_says" = (["told", "due"] : List Str) := ifc_pars h.findf_law_says
theorem dflf_law_says {P : Prog} [h : H_f_law_says P] {c : Str → List D → CRes} : (P.ifc c).dfl "_law_says" = ([] : List D) := ifc_dfl h.findf_law_says
theorem runf_law_says {P : Prog} [h : H_f_law_says P] {n : Nat} {a0 a1 : D} : P.call (n + 1) "_law_says" [a0, a1] = finF [false, false] (denB (P.ifc (P.call n)) f_law_says_body [.val a0, .val a1]) := call_run h.findf_law_says rfl

def f_law_is_number_body : List S := [.ret (.andE (.bi (.isi .int) [.slot 0]) (.notE (.bi (.isi .bool) [.slot 0])))]

def f_law_is_number : Fn where
  name := "_law_is_number"
  pars := ["thing"]
  dfl := []
  ino := [false]
  N := ["thing"]
  body := f_law_is_number_body

class H_f_law_is_number (P : Prog) : Prop where
  findf_law_is_number : P.find "_law_is_number" = some f_law_is_number
theorem inof_law_is_number {P : Prog} [h : H_f_law_is_number P] {c : Str → List D → CRes} : (P.ifc c).ino "_law_is_number" = [false] := ifc_ino h.findf_law_is_number
theorem parsf_law_is_number {P : Prog} [h : H_f_law_is_number P] {c : Str → List D → CRes} : (P.ifc c).pars "_law_is_number" = (["thing"] : List Str) := ifc_pars h.findf_law_is_number
theorem dflf_law_is_number {P : Prog} [h : H_f_law_is_number P] {c : Str → List D → CRes} : (P.ifc c).dfl "_law_is_number" = ([] : List D) := ifc_dfl h.findf_law_is_number
theorem runf_law_is_number {P : Prog} [h : H_f_law_is_number P] {n : Nat} {a0 : D} : P.call (n + 1) "_law_is_number" [a0] = finF [false] (denB (P.ifc (P.call n)) f_law_is_number_body [.val a0]) := call_run h.findf_law_is_number rfl

def f_law_odd_body : List S := [.ret (.call "_law_pick" [.slot 0, .lst [false, false, false, false, false, false, false, false, false, false, false, false, false, false, false] [.lit (.non), .lit (.bl true), .lit (.int 5), .lit (.str "row"), .tup [] [], .lst [] [], .dict [] [], .tup [false] [.lit (.int 4)], .tup [false, false] [.lit (.int 0), .lit (.non)], .tup [false, false] [.lit (.int 0), .lit (.bl true)], .lst [false, false] [.lit (.int 0), .lit (.int 1)], .tup [false] [.tup [false] [.lit (.int 0)]], .tup [false] [.op .sub (.lit (.int 0)) (.lit (.int 1))], .tup [false] [.lit (.str "0")], .op .sub (.lit (.int 0)) (.lit (.int 1))]] [] [])]

def f_law_odd : Fn where
  name := "_law_odd"
  pars := ["draw"]
  dfl := []
  ino := [true]
  N := ["draw"]
  body := f_law_odd_body

class H_f_law_odd (P : Prog) : Prop extends H_f_law_pick P where
  findf_law_odd : P.find "_law_odd" = some f_law_odd
theorem inof_law_odd {P : Prog} [h : H_f_law_odd P] {c : Str → List D → CRes} : (P.ifc c).ino "_law_odd" = [true] := ifc_ino h.findf_law_odd
theorem parsf_law_odd {P : Prog} [h : H_f_law_odd P] {c : Str → List D → CRes} : (P.ifc c).pars "_law_odd" = (["draw"] : List Str) := ifc_pars h.findf_law_odd
theorem dflf_law_odd {P : Prog} [h : H_f_law_odd P] {c : Str → List D → CRes} : (P.ifc c).dfl "_law_odd" = ([] : List D) := ifc_dfl h.findf_law_odd
theorem runf_law_odd {P : Prog} [h : H_f_law_odd P] {n : Nat} {a0 : D} : P.call (n + 1) "_law_odd" [a0] = finF [true] (denB (P.ifc (P.call n)) f_law_odd_body [.ref a0]) := call_run h.findf_law_odd rfl

def f_law_hues_body : List S := [.ret (.call "_law_pick" [.slot 0, .lst [false, false, false, false, false] [.lit (.int 1), .lit (.int 1), .lit (.int 2), .lit (.int 2), .lit (.int 3)]] [] [])]

def f_law_hues : Fn where
  name := "_law_hues"
  pars := ["draw"]
  dfl := []
  ino := [true]
  N := ["draw"]
  body := f_law_hues_body

class H_f_law_hues (P : Prog) : Prop extends H_f_law_pick P where
  findf_law_hues : P.find "_law_hues" = some f_law_hues
theorem inof_law_hues {P : Prog} [h : H_f_law_hues P] {c : Str → List D → CRes} : (P.ifc c).ino "_law_hues" = [true] := ifc_ino h.findf_law_hues
theorem parsf_law_hues {P : Prog} [h : H_f_law_hues P] {c : Str → List D → CRes} : (P.ifc c).pars "_law_hues" = (["draw"] : List Str) := ifc_pars h.findf_law_hues
theorem dflf_law_hues {P : Prog} [h : H_f_law_hues P] {c : Str → List D → CRes} : (P.ifc c).dfl "_law_hues" = ([] : List D) := ifc_dfl h.findf_law_hues
theorem runf_law_hues {P : Prog} [h : H_f_law_hues P] {n : Nat} {a0 : D} : P.call (n + 1) "_law_hues" [a0] = finF [true] (denB (P.ifc (P.call n)) f_law_hues_body [.ref a0]) := call_run h.findf_law_hues rfl

def f_law_no_hues_body : List S := [.ret (.call "_law_pick" [.slot 0, .lst [false, false, false, false, false, false, false, false, false] [.lit (.non), .lit (.int 0), .lit (.int 4), .op .sub (.lit (.int 0)) (.lit (.int 1)), .lit (.bl true), .lit (.str "1"), .tup [false] [.lit (.int 1)], .lst [] [], .op .pow (.lit (.int 10)) (.lit (.int 20))]] [] [])]

def f_law_no_hues : Fn where
  name := "_law_no_hues"
  pars := ["draw"]
  dfl := []
  ino := [true]
  N := ["draw"]
  body := f_law_no_hues_body

class H_f_law_no_hues (P : Prog) : Prop extends H_f_law_pick P where
  findf_law_no_hues : P.find "_law_no_hues" = some f_law_no_hues
theorem inof_law_no_hues {P : Prog} [h : H_f_law_no_hues P] {c : Str → List D → CRes} : (P.ifc c).ino "_law_no_hues" = [true] := ifc_ino h.findf_law_no_hues
theorem parsf_law_no_hues {P : Prog} [h : H_f_law_no_hues P] {c : Str → List D → CRes} : (P.ifc c).pars "_law_no_hues" = (["draw"] : List Str) := ifc_pars h.findf_law_no_hues
theorem dflf_law_no_hues {P : Prog} [h : H_f_law_no_hues P] {c : Str → List D → CRes} : (P.ifc c).dfl "_law_no_hues" = ([] : List D) := ifc_dfl h.findf_law_no_hues
theorem runf_law_no_hues {P : Prog} [h : H_f_law_no_hues P] {n : Nat} {a0 : D} : P.call (n + 1) "_law_no_hues" [a0] = finF [true] (denB (P.ifc (P.call n)) f_law_no_hues_body [.ref a0]) := call_run h.findf_law_no_hues rfl

def f_law_size_body : List S := [.ret (.bi .sum [.comp [1] (.sl 1) (.slot 0) [] (.op .add (.lit (.int 1)) (.bi .int [.cmp .eq (.slot 1) (.lit (.int 0))]))])]

def f_law_size : Fn where
  name := "_law_size"
  pars := ["row"]
  dfl := []
  ino := [false]
  N := ["row", "letter"]
  body := f_law_size_body

class H_f_law_size (P : Prog) : Prop where
  findf_law_size : P.find "_law_size" = some f_law_size
theorem inof_law_size {P : Prog} [h : H_f_law_size P] {c : Str → List D → CRes} : (P.ifc c).ino "_law_size" = [false] := ifc_ino h.findf_law_size
theorem parsf_law_size {P : Prog} [h : H_f_law_size P] {c : Str → List D → CRes} : (P.ifc c).pars "_law_size" = (["row"] : List Str) := ifc_pars h.findf_law_size
theorem dflf_law_size {P : Prog} [h : H_f_law_size P] {c : Str → List D → CRes} : (P.ifc c).dfl "_law_size" = ([] : List D) := ifc_dfl h.findf_law_size
theorem runf_law_size {P : Prog} [h : H_f_law_size P] {n : Nat} {a0 : D} : P.call (n + 1) "_law_size" [a0] = finF [false] (denB (P.ifc (P.call n)) f_law_size_body [.val a0, .no]) := call_run h.findf_law_size rfl

def f_law_row_b1 : List S := [.set 7 (.call "_law_take" [.slot 0, .op .add (.slot 1) (.lit (.int 1))] [] []),
    .ifs (.cmp .eq (.slot 3) (.lit (.int 0))) [.set 7 (.ite (.cmp .lt (.slot 6) (.lit (.int 3))) (.lit (.int 0)) (.slot 7))] [.ifs (.cmp .eq (.slot 3) (.lit (.int 1))) [.set 7 (.ite (.cmp .lt (.slot 6) (.lit (.int 3))) (.op .add (.lit (.int 1)) (.call "_law_take" [.slot 0, .slot 1] [] [])) (.slot 7))] [.ifs (.cmp .eq (.slot 3) (.lit (.int 2))) [.set 7 (.ite (.cmp .gt (.call "_law_take" [.slot 0, .lit (.int 4)] [] []) (.lit (.int 0))) (.lit (.int 0)) (.slot 7))] [.ifs (.cmp .eq (.slot 3) (.lit (.int 3))) [.set 7 (.ite (.cmp .gt (.call "_law_take" [.slot 0, .lit (.int 4)] [] []) (.lit (.int 0))) (.op .add (.lit (.int 1)) (.call "_law_take" [.slot 0, .slot 1] [] [])) (.slot 7))] []]]],
    .ifs (.cmp .ge (.slot 5) (.op .add (.lit (.int 1)) (.bi .int [.cmp .eq (.slot 7) (.lit (.int 0))]))) [.expr (.app 4 (.slot 7)), .set 5 (.op .sub (.op .sub (.slot 5) (.lit (.int 1))) (.bi .int [.cmp .eq (.slot 7) (.lit (.int 0))]))] []]

def f_law_row_body : List S := [.setP [3, 4, 5] [.call "_law_take" [.slot 0, .lit (.int 5)] [] [], .lst [] [], .call "_law_take" [.slot 0, .op .add (.slot 2) (.lit (.int 1))] [] []],
    .forS (.sl 6) (.range [.slot 2]) f_law_row_b1,
    .ret (.bi .tuple [.slot 4])]

def f_law_row : Fn where
  name := "_law_row"
  pars := ["draw", "hues", "most"]
  dfl := []
  ino := [true, false, false]
  N := ["draw", "hues", "most", "way", "found", "left", "lap", "letter"]
  body := f_law_row_body

class H_f_law_row (P : Prog) : Prop extends H_f_law_take P where
  findf_law_row : P.find "_law_row" = some f_law_row
theorem inof_law_row {P : Prog} [h : H_f_law_row P] {c : Str → List D → CRes} : (P.ifc c).ino "_law_row" = [true, false, false] := ifc_ino h.findf_law_row
theorem parsf_law_row {P : Prog} [h : H_f_law_row P] {c : Str → List D → CRes} : (P.ifc c).pars "_law_row" = (["draw", "hues", "most"] : List Str) := ifc_pars h.findf_law_row
theorem dflf_law_row {P : Prog} [h : H_f_law_row P] {c : Str → List D → CRes} : (P.ifc c).dfl "_law_row" = ([] : List D) := ifc_dfl h.findf_law_row
theorem runf_law_row {P : Prog} [h : H_f_law_row P] {n : Nat} {a0 a1 a2 : D} : P.call (n + 1) "_law_row" [a0, a1, a2] = finF [true, false, false] (denB (P.ifc (P.call n)) f_law_row_body [.ref a0, .val a1, .val a2, .no, .no, .no, .no, .no]) := call_run h.findf_law_row rfl

def f_law_is_row_body : List S := [.ifs (.orE (.notE (.bi (.isi .tup) [.slot 1])) (.cmp .ne (.comp [2] (.sl 2) (.slot 1) [.orE (.notE (.call "_law_is_number" [.slot 2] [] [])) (.notE (.chain .le .le (.lit (.int 0)) (.slot 2) (.slot 0)))] (.slot 2)) (.lst [] []))) [.ret (.lit (.bl false))] [],
    .ret (.cmp .lt (.call "_law_size" [.slot 1] [] []) (.lit (.int 25)))]

def f_law_is_row : Fn where
  name := "_law_is_row"
  pars := ["hues", "thing"]
  dfl := []
  ino := [false, false]
  N := ["hues", "thing", "item"]
  body := f_law_is_row_body

class H_f_law_is_row (P : Prog) : Prop extends H_f_law_size P, H_f_law_is_number P where
  findf_law_is_row : P.find "_law_is_row" = some f_law_is_row
theorem inof_law_is_row {P : Prog} [h : H_f_law_is_row P] {c : Str → List D → CRes} : (P.ifc c).ino "_law_is_row" = [false, false] := ifc_ino h.findf_law_is_row
theorem parsf_law_is_row {P : Prog} [h : H_f_law_is_row P] {c : Str → List D → CRes} : (P.ifc c).pars "_law_is_row" = (["hues", "thing"] : List Str) := ifc_pars h.findf_law_is_row
theorem dflf_law_is_row {P : Prog} [h : H_f_law_is_row P] {c : Str → List D → CRes} : (P.ifc c).dfl "_law_is_row" = ([] : List D) := ifc_dfl h.findf_law_is_row
theorem runf_law_is_row {P : Prog} [h : H_f_law_is_row P] {n : Nat} {a0 a1 : D} : P.call (n + 1) "_law_is_row" [a0, a1] = finF [false, false] (denB (P.ifc (P.call n)) f_law_is_row_body [.val a0, .val a1, .no]) := call_run h.findf_law_is_row rfl

def f_law_no_row_body : List S := [.ret (.call "_law_pick" [.slot 0, .lst [false, false, false, false, false, false, false, false, false, false, false, false, false] [.lit (.non), .lit (.int 5), .lit (.str "01"), .lst [false, false] [.lit (.int 0), .lit (.int 1)], .tup [false] [.op .add (.slot 1) (.lit (.int 1))], .tup [false] [.op .sub (.lit (.int 0)) (.lit (.int 1))], .tup [false] [.lit (.bl true)], .tup [false] [.lit (.str "0")], .tup [false, false] [.lit (.int 0), .lit (.non)], .op .add (.op .mul (.tup [false] [.lit (.int 0)]) (.lit (.int 12))) (.tup [false] [.lit (.int 1)]), .op .mul (.tup [false] [.lit (.int 1)]) (.lit (.int 25)), .dict [] [], .tup [false] [.tup [false] [.lit (.int 0)]]]] [] [])]

def f_law_no_row : Fn where
  name := "_law_no_row"
  pars := ["draw", "hues"]
  dfl := []
  ino := [true, false]
  N := ["draw", "hues"]
  body := f_law_no_row_body

class H_f_law_no_row (P : Prog) : Prop extends H_f_law_pick P where
  findf_law_no_row : P.find "_law_no_row" = some f_law_no_row
theorem inof_law_no_row {P : Prog} [h : H_f_law_no_row P] {c : Str → List D → CRes} : (P.ifc c).ino "_law_no_row" = [true, false] := ifc_ino h.findf_law_no_row
theorem parsf_law_no_row {P : Prog} [h : H_f_law_no_row P] {c : Str → List D → CRes} : (P.ifc c).pars "_law_no_row" = (["draw", "hues"] : List Str) := ifc_pars h.findf_law_no_row
theorem dflf_law_no_row {P : Prog} [h : H_f_law_no_row P] {c : Str → List D → CRes} : (P.ifc c).dfl "_law_no_row" = ([] : List D) := ifc_dfl h.findf_law_no_row
theorem runf_law_no_row {P : Prog} [h : H_f_law_no_row P] {n : Nat} {a0 a1 : D} : P.call (n + 1) "_law_no_row" [a0, a1] = finF [true, false] (denB (P.ifc (P.call n)) f_law_no_row_body [.ref a0, .val a1]) := call_run h.findf_law_no_row rfl

end Mini

/- L00 -/
set_option Elab.async false
set_option linter.all false
set_option maxRecDepth 100000
set_option maxHeartbeats 4000000
namespace Mini
open PySem
variable {P : Prog} {n : Nat}
theorem is_whole_s [H_f_is_whole P] {d : D} (h : d.base = true) : P.call (n + 1) "is_whole" [d] = .ok (.val (.bl d.whole)) [] := by
  rw [runf_is_whole]
  simp! [f_is_whole_body]
theorem is_whole_I [H_f_is_whole P] {i : Int} : P.call (n + 1) "is_whole" [.int i] = .ok (.val (.bl true)) [] := is_whole_s rfl
theorem law_is_number_s [H_f_law_is_number P] {d : D} (h : d.base = true) : P.call (n + 1) "_law_is_number" [d] = .ok (.val (.bl d.whole)) [] := by
  rw [runf_law_is_number]
  simp! [f_law_is_number_body]
theorem law_mixed_s [H_f_law_mixed P] {d : Draw} (h : DrawOk d) : ∃ k : Int, 0 ≤ k ∧ P.call (n + 1) "_law_mixed" [drawD d] = .ok (.val (.int k)) [drawD { d with count := d.count + 1 }] := by
  have hc : d.cells.length ≤ 63 := h
  rw [runf_law_mixed]
  simp! [f_law_mixed_body, draw_count, draw_setc, draw_cells]
  obtain ⟨ρ', h1, k, s, rfl, hk, -⟩ := loop_rel (st := turnS (P.ifc (P.call n)) (.sl 2) f_law_mixed_b1) (e := D.int)
    (fun l ρ => ∃ k s, ρ = [.ref (drawD { d with count := d.count + 1 }), .val (.int k), s] ∧ (l = [] → 0 ≤ k) ∧ (s = .no ∨ ∃ v, s = .val v)) (d.cells ++ [d.count + 1])
    [.ref (drawD { d with count := d.count + 1 }), .val (.int (1469598103934665603 + 97 * (d.count + 1))), .no] ⟨_, _, rfl, by simp, .inl rfl⟩ (by
      rintro x r _ ⟨k, s, rfl, -, hs⟩
      rcases hs with rfl | ⟨v, rfl⟩ <;> simp! [f_law_mixed_body, f_law_mixed_b1] <;> exact ⟨_, _, rfl, fun _ => by omega, .inr ⟨_, rfl⟩⟩)
  rw [h1]
  exact ⟨k, hk rfl, by simp! [and_self]⟩
theorem law_take_s [H_f_law_take P] {d : Draw} (h : DrawOk d) {a : Int} (ha : a ≤ 1125899906842624) : ∃ (k : Int) (d' : Draw), DrawOk d' ∧ 0 ≤ k ∧ (1 ≤ a → k < a) ∧ P.call (n + 2) "_law_take" [drawD d, .int a] = .ok (.val (.int k)) [drawD d'] := by
  rw [runf_law_take]
  by_cases h2 : a < 2
  · refine ⟨0, d, h, Int.le_refl 0, fun _ => by omega, ?_⟩
    simp! [f_law_take_body, inof_law_mixed, parsf_law_mixed, dflf_law_mixed, h2]
  · by_cases hw : 0 < d.whole
    · refine ⟨d.whole % a, { d with whole := d.whole / a }, h, Int.emod_nonneg _ (by omega), fun _ => Int.emod_lt_of_pos _ (by omega), ?_⟩
      simp! [f_law_take_body, inof_law_mixed, parsf_law_mixed, dflf_law_mixed, h2, draw_whole, hw, draw_setw]
    · obtain ⟨k, hk, e⟩ := law_mixed_s (P := P) (n := n) h
      refine ⟨k / 1024 % a, { d with count := d.count + 1 }, h, Int.emod_nonneg _ (by omega), fun _ => Int.emod_lt_of_pos _ (by omega), ?_⟩
      have hf : P.fuel = (P.fuel - 1) + 1 := by have := H_f_law_take.fuelf_law_take (P := P); omega
      simp! [f_law_take_body, inof_law_mixed, parsf_law_mixed, dflf_law_mixed, h2, draw_whole, hw, e, st_whl, ifc_fuel]
      rw [hf]
      have hb : ¬ (a > 1125899906842624) := by omega
      simp! [f_law_take_body, inof_law_mixed, parsf_law_mixed, dflf_law_mixed, whileL, hb]
theorem law_pick_s [H_f_law_pick P] {d : Draw} (h : DrawOk d) {xs : List D} (h0 : 1 ≤ xs.length) (h1 : xs.length ≤ 16777216) : ∃ (x : D) (d' : Draw), DrawOk d' ∧ x ∈ xs ∧ P.call (n + 3) "_law_pick" [drawD d, .lst xs] = .ok (.val x) [drawD d'] := by
  obtain ⟨k, d', hd, hk, hk2, e⟩ := law_take_s (P := P) (n := n) h (a := xs.length) (by omega)
  have hk3 := hk2 (by omega)
  have hk4 : k.toNat < xs.length := by omega
  refine ⟨xs[k.toNat], d', hd, List.getElem_mem hk4, ?_⟩
  rw [runf_law_pick]
  simp! [f_law_pick_body, inof_law_take, parsf_law_take, dflf_law_take, e]
  rw [atI_get hk, List.getElem?_eq_getElem hk4]
  simp! [f_law_pick_body, inof_law_take, parsf_law_take, dflf_law_take]
/-! kinds -/
def kindOf : D → Str
  | .non => "None"
  | .bl b => if b then "True" else "False"
  | .int _ => "number"
  | .str _ => "string"
  | .lst _ => "list"
  | .tup _ => "tuple"
  | _ => "other"
def kidsOf : D → List D
  | .lst xs => xs
  | .tup xs => xs
  | _ => []
def kindS (s : List D × List D × Slot) : List D × List D × Slot := (s.1 ++ [.str (kindOf (s.2.1.getLast?.getD .non))], s.2.1.dropLast ++ kidsOf (s.2.1.getLast?.getD .non), .val (s.2.1.getLast?.getD .non))
def isKind (d : D) : Prop := ∃ x, d = .str x ∧ (x = "None" ∨ x = "True" ∨ x = "False" ∨ x = "number" ∨ x = "string" ∨ x = "list" ∨ x = "tuple" ∨ x = "other")
theorem isKind_of (d : D) : isKind (.str (kindOf d)) := by
  refine ⟨_, rfl, ?_⟩
  cases d with
  | bl b => cases b <;> simp [kindOf]
  | _ => simp [kindOf]
theorem isKind_ok {d : D} (h : isKind d) : d.plain = true ∧ d.py.canLay0 = true ∧ d.py.depth ≤ 0 := by
  obtain ⟨x, rfl, h⟩ := h
  refine ⟨rfl, ?_, Nat.le_refl 0⟩
  rcases h with rfl | rfl | rfl | rfl | rfl | rfl | rfl | rfl <;> decide +kernel
theorem kids_nodes (x : D) : D.nodesL (kidsOf x) + 1 ≤ x.nodes := by
  cases x <;> simp [kidsOf, D.nodes, D.nodesL] <;> omega
theorem kids_tame {x : D} (h : x.tame = true) : ∀ y ∈ kidsOf x, y.tame = true := by
  cases x with
  | tup xs => exact tame_kidT h
  | lst xs => exact tame_kid h
  | _ => intro y hy; cases hy
theorem law_kinds_s [H_f_law_kinds P] {d : D} (h : d.tame = true) (hn : d.nodes ≤ 10000000) : ∃ ks : List D, (∀ k ∈ ks, isKind k) ∧ P.call (n + 1) "_law_kinds" [d] = .ok (.own (.lst ks)) [] := by
  rw [runf_law_kinds]
  simp! [f_law_kinds_body, st_whl, ifc_fuel]
  have hfu := H_f_law_kinds.fuelf_law_kinds (P := P)
  obtain ⟨s', e, hI, hb⟩ := while_rel (test := vT (.cmp .ne (.slot 2) (.lst [] [])) (denE (P.ifc (P.call n)) (.cmp .ne (.slot 2) (.lst [] [])))) (body := denB (P.ifc (P.call n)) f_law_kinds_b1)
    (fun s : List D × List D × Slot => [.val d, .own (.lst s.1), .own (.lst s.2.1), s.2.2, .no]) (fun s => D.nodesL s.2.1) (fun s => !s.2.1.isEmpty) kindS
    (fun s => (∀ k ∈ s.1, isKind k) ∧ s.1.length + D.nodesL s.2.1 ≤ 10000000 ∧ (∀ x ∈ s.2.1, x.tame = true) ∧ (s.2.2 = .no ∨ ∃ v, s.2.2 = .val v))
    (fun s hs => by
      have : (D.lst s.2.1).eqOk = true := listOk (k := 40) (by omega) (fun x hx => tame_plain (hs.2.2.1 x hx))
      simp! [f_law_kinds_body, cmp_neNil])
    (fun s hs hb => by
      obtain ⟨fo, li, one⟩ := s
      obtain ⟨h1, h2, h3, h4⟩ := hs
      have hne : li ≠ [] := by rintro rfl; exact Bool.noConfusion hb
      obtain ⟨li, x, rfl⟩ : ∃ l x, li = l ++ [x] := ⟨li.dropLast, li.getLast hne, (List.dropLast_concat_getLast hne).symm⟩
      have hx : x.tame = true := h3 x (by simp)
      have hn := x.nodes_pos
      dsimp only at h2 h4
      rw [D.nodesL_append] at h2
      simp only [D.nodesL, Nat.add_zero] at h2
      have hl := D.length_nodesL li
      have hk : ∀ k ∈ fo ++ [D.str (kindOf x)], isKind k := by
        intro k hk
        rw [List.mem_append] at hk
        rcases hk with hk | hk
        · exact h1 k hk
        · rw [List.mem_singleton.mp hk]; exact isKind_of x
      have ht : ∀ y ∈ li, y.tame = true := fun y hy => h3 y (by simp [hy])
      have key : goOn (denB (P.ifc (P.call n)) f_law_kinds_b1 [.val d, .own (.lst fo), .own (.lst (li ++ [x])), one, .no]) = some [.val d, .own (.lst (fo ++ [.str (kindOf x)])), .own (.lst (li ++ kidsOf x)), .val x, .no] := by
        have hp := tame_plain hx
        cases x with
        | tup xs =>
          have := D.length_nodesL xs
          simp only [D.nodes] at h2
          rcases h4 with rfl | ⟨v, rfl⟩ <;> simp! [f_law_kinds_body, f_law_kinds_b1, List.getLast?_concat, List.dropLast_concat, kidsOf, kindOf, D.isBl, D.isInt, D.isStr, D.isLst, D.isTup, D.isN]
        | lst xs =>
          have := D.length_nodesL xs
          simp only [D.nodes] at h2
          rcases h4 with rfl | ⟨v, rfl⟩ <;> simp! [f_law_kinds_body, f_law_kinds_b1, List.getLast?_concat, List.dropLast_concat, kidsOf, kindOf, D.isBl, D.isInt, D.isStr, D.isLst, D.isTup, D.isN]
        | dic _ _ => exact Bool.noConfusion hp.1
        | fn _ => exact Bool.noConfusion hp.1
        | exc _ _ => exact Bool.noConfusion hp.1
        | scr _ => exact Bool.noConfusion hp.1
        | _ =>
          rcases h4 with rfl | ⟨v, rfl⟩ <;> simp! [f_law_kinds_body, f_law_kinds_b1, List.getLast?_concat, List.dropLast_concat, kidsOf, kindOf, D.isBl, D.isInt, D.isStr, D.isLst, D.isTup, D.isN]
      have hs : kindS (fo, li ++ [x], one) = (fo ++ [.str (kindOf x)], li ++ kidsOf x, .val x) := by simp [kindS]
      rw [hs]
      refine ⟨key, ⟨hk, ?_, ?_, .inr ⟨_, rfl⟩⟩, ?_⟩
      · have := kids_nodes x
        simp only [List.length_append, List.length_cons, List.length_nil, D.nodesL_append]
        omega
      · intro y hy
        rcases List.mem_append.mp hy with hy | hy
        · exact ht y hy
        · exact kids_tame hx y hy
      · have := kids_nodes x
        simp only [D.nodesL_append, D.nodesL]
        omega) P.fuel ([], [d], .no) ⟨by simp, by simp [D.nodesL]; omega, by simp [h], .inl rfl⟩ (by simp [D.nodesL]; omega)
  obtain ⟨ks, ls, one⟩ := s'
  exact ⟨ks, hI.1, by rw [e]; simp! [f_law_kinds_body]⟩

theorem law_says_s [H_f_law_says P] {d : D} (h : d.tame = true) (hn : d.nodes ≤ 10000000) : P.call (n + 2) "_law_says" [d, d] = .ok (.val (.bl true)) [] := by
  obtain ⟨ks, hk, e⟩ := law_kinds_s (P := P) (n := n) h hn
  have h1 : (D.lst ks).eqOk = true := listOk (k := 0) (by omega) (fun x hx => isKind_ok (hk x hx))
  have h2 := tame_eqOk h
  rw [runf_law_says]
  simp! [f_law_says_body, inof_law_kinds, parsf_law_kinds, dflf_law_kinds, e, cmp_refl]
theorem law_hues_s [H_f_law_hues P] {d : Draw} (h : DrawOk d) : ∃ (k : Int) (d' : Draw), DrawOk d' ∧ 1 ≤ k ∧ k ≤ 3 ∧ P.call (n + 4) "_law_hues" [drawD d] = .ok (.val (.int k)) [drawD d'] := by
  obtain ⟨x, d', hd, hx, e⟩ := law_pick_s (P := P) (n := n) h (xs := [.int 1, .int 1, .int 2, .int 2, .int 3]) (by simp) (by simp)
  obtain ⟨k, rfl, h1, h2⟩ : ∃ k, x = .int k ∧ 1 ≤ k ∧ k ≤ 3 := by
    simp at hx
    rcases hx with rfl | rfl | rfl <;> exact ⟨_, rfl, by omega, by omega⟩
  refine ⟨k, d', hd, h1, h2, ?_⟩
  rw [runf_law_hues]
  simp! [f_law_hues_body, inof_law_pick, parsf_law_pick, dflf_law_pick, e]
/-- a value that is looked at two deep -/
def base2 (d : D) : Prop := d.base = true ∧ (∀ xs, d = .tup xs → ∀ x ∈ xs, x.base = true) ∧ ∀ xs, d = .lst xs → ∀ x ∈ xs, x.base = true
def isHuesD : D → Bool
  | .int i => decide (1 ≤ i) && decide (i ≤ 3)
  | _ => false
theorem law_no_hues_s [H_f_law_no_hues P] {d : Draw} (h : DrawOk d) : ∃ (x : D) (d' : Draw), DrawOk d' ∧ x.base = true ∧ isHuesD x = false ∧ P.call (n + 4) "_law_no_hues" [drawD d] = .ok (.val x) [drawD d'] := by
  obtain ⟨x, d', hd, hx, e⟩ := law_pick_s (P := P) (n := n) h (xs := [.non, .int 0, .int 4, .int (-1), .bl true, .str "1", tupE .int [1], .lst [], .int 100000000000000000000]) (by simp) (by simp)
  refine ⟨x, d', hd, ?_, ?_, ?_⟩
  · simp at hx
    rcases hx with rfl | rfl | rfl | rfl | rfl | rfl | rfl | rfl | rfl <;> rfl
  · simp at hx
    rcases hx with rfl | rfl | rfl | rfl | rfl | rfl | rfl | rfl | rfl <;> rfl
  rw [runf_law_no_hues]
  simp! [f_law_no_hues_body, inof_law_pick, parsf_law_pick, dflf_law_pick, e]
end Mini

/- R00 -/
set_option Elab.async false
set_option linter.all false
set_option maxRecDepth 100000
set_option maxHeartbeats 4000000
/-! rows: sizes, what is a row -/
namespace Mini
open PySem
variable {P : Prog} {n : Nat}
def letS (l : Int) : Int := if l = 0 then 2 else 1
def sz (r : List Int) : Int := (r.map letS).sum
theorem sz_nil : sz [] = 0 := rfl
theorem sz_cons {a : Int} {r : List Int} : sz (a :: r) = letS a + sz r := by simp [sz]
theorem sz_append {r s : List Int} : sz (r ++ s) = sz r + sz s := by simp [sz]
theorem letS_pos (l : Int) : 1 ≤ letS l ∧ letS l ≤ 2 := by unfold letS; split <;> omega
theorem sz_len : ∀ r : List Int, (r.length : Int) ≤ sz r ∧ sz r ≤ 2 * r.length
  | [] => by simp [sz]
  | a :: r => by
    have := sz_len r
    have := letS_pos a
    rw [sz_cons, List.length_cons]
    omega
theorem sz_rev {r : List Int} : sz r.reverse = sz r := by
  unfold sz
  rw [List.map_reverse, List.sum_reverse]
theorem size_of_s [H_f_size_of P] {r : List Int} (h : r.length ≤ 16777216) : P.call (n + 1) "size_of" [row r] = .ok (.val (.int (sz r))) [] := by
  rw [runf_size_of]
  simp! [f_size_of_body]
  rw [kComp_map (e' := D.int) letS (by rfl) (fun x _ => by simp! [f_size_of_body, letS]) h]
  simp! [f_size_of_body, sz]
theorem law_size_s [H_f_law_size P] {r : List Int} (h : r.length ≤ 16777216) : P.call (n + 1) "_law_size" [row r] = .ok (.val (.int (sz r))) [] := by
  rw [runf_law_size]
  simp! [f_law_size_body]
  rw [kComp_map (e' := D.int) letS (by rfl) (fun x _ => by simp! [f_law_size_body, letS]; split <;> rfl) h]
  simp! [f_law_size_body, sz]

def letOk (h : Int) : D → Bool
  | .int i => decide (0 ≤ i) && decide (i ≤ h)
  | _ => false
def toI : D → Int
  | .int i => i
  | _ => 0
/-- whether any value is a row -/
def isRowD (h : Int) : D → Bool
  | .tup xs => xs.all (letOk h) && decide (sz (xs.map toI) ≤ 24)
  | _ => false
def RowOk (h : Int) (r : List Int) : Prop := (∀ x ∈ r, 0 ≤ x ∧ x ≤ h) ∧ sz r ≤ 24
instance {h : Int} {r : List Int} : Decidable (RowOk h r) := inferInstanceAs (Decidable (_ ∧ _))
theorem RowOk.len {h : Int} {r : List Int} (q : RowOk h r) : r.length ≤ 24 := by
  have := (sz_len r).1
  have := q.2
  omega
theorem toI_map : ∀ r : List Int, (r.map D.int).map toI = r
  | [] => rfl
  | a :: r => by
    show toI (D.int a) :: (r.map D.int).map toI = a :: r
    rw [toI_map r]
    rfl
theorem isRow_row {h : Int} {r : List Int} : isRowD h (row r) = decide (RowOk h r) := by
  show ((r.map D.int).all (letOk h) && decide (sz ((r.map D.int).map toI) ≤ 24)) = _
  rw [toI_map, List.all_map, Bool.eq_iff_iff]
  refine Iff.trans ?_ (decide_eq_true_iff (p := RowOk h r)).symm
  simp only [Bool.and_eq_true, List.all_eq_true, decide_eq_true_eq, Function.comp, letOk]
  exact Iff.rfl
theorem letOk_int {h : Int} {d : D} (q : letOk h d = true) : ∃ i, d = .int i ∧ 0 ≤ i ∧ i ≤ h := by
  cases d with
  | int i => simp [letOk] at q; exact ⟨i, rfl, q⟩
  | _ => exact Bool.noConfusion q
theorem letOk_all {h : Int} : ∀ {xs : List D}, xs.all (letOk h) = true → ∃ r : List Int, xs = r.map D.int
  | [], _ => ⟨[], rfl⟩
  | d :: xs, q => by
    rw [List.all_cons, Bool.and_eq_true] at q
    obtain ⟨i, rfl, _⟩ := letOk_int q.1
    obtain ⟨r, rfl⟩ := letOk_all q.2
    exact ⟨i :: r, rfl⟩
theorem isRow_of {h : Int} {d : D} (q : isRowD h d = true) : ∃ r, d = row r ∧ RowOk h r := by
  cases d with
  | tup xs =>
    have q' : (xs.all (letOk h) && decide (sz (xs.map toI) ≤ 24)) = true := q
    rw [Bool.and_eq_true] at q'
    obtain ⟨r, rfl⟩ := letOk_all q'.1
    refine ⟨r, rfl, ?_⟩
    have := isRow_row (h := h) (r := r)
    rw [show isRowD h (row r) = true from q] at this
    exact of_decide_eq_true this.symm
  | _ => exact Bool.noConfusion q
/-- a value whose items may be looked at -/
def look2 : D → Bool
  | .tup xs => xs.all D.tame && decide (xs.length ≤ 16777216)
  | d => d.base
theorem tame_base {d : D} (h : d.tame = true) : d.base = true := by
  have := (tame_plain h).1
  cases d <;> first | rfl | exact Bool.noConfusion this
theorem look2_base {d : D} (h : look2 d = true) : d.base = true := by
  cases d <;> first | rfl | exact h
theorem letOk_s {F : Ifc} {h : Int} : True := trivial
theorem all_id {α : Type} {p : α → Bool} {l : List α} : (l.map p).all id = l.all p := by
  rw [List.all_map]
  rfl
theorem is_row_of_s [H_f_is_row_of P] {h : Int} {d : D} (hd : look2 d = true) : P.call (n + 2) "is_row_of" [.int h, d] = .ok (.val (.bl (isRowD h d))) [] := by
  have hb := look2_base hd
  rw [runf_is_row_of]
  cases d with
  | tup xs =>
    have hd' : (xs.all D.tame && decide (xs.length ≤ 16777216)) = true := hd
    rw [Bool.and_eq_true, List.all_eq_true] at hd'
    have hl := of_decide_eq_true hd'.2
    have hx := hd'.1
    simp! [f_is_row_of_body, inof_size_of, parsf_size_of, dflf_size_of, inof_is_whole, parsf_is_whole, dflf_is_whole, glf_is_row_of_MOST_SIZE]
    have e := kComp_map (F := P.ifc (P.call (n + 1))) (ρ := [.val (.int h), .val (.tup xs), .no]) (e := id) (e' := D.bl) (l := xs) (own := [2]) (tg := .sl 2) (w := [1]) (elt := .andE (.call "is_whole" [.slot 2] [] []) (.chain .le .le (.lit (.int 0)) (.slot 2) (.slot 0))) (letOk h) (by rfl) (fun x hx' => by
      have hb := tame_base (hx x hx')
      have e1 := is_whole_s (P := P) (n := n) hb
      cases x <;> simp! [f_is_row_of_body, inof_size_of, parsf_size_of, dflf_size_of, inof_is_whole, parsf_is_whole, dflf_is_whole, glf_is_row_of_MOST_SIZE, id_eq, e1, D.whole, letOk]) hl
    rw [List.map_id] at e
    rw [e]
    simp! [f_is_row_of_body, inof_size_of, parsf_size_of, dflf_size_of, inof_is_whole, parsf_is_whole, dflf_is_whole, glf_is_row_of_MOST_SIZE, all_id]
    cases hq : xs.all (letOk h) with
    | false =>
      simp! [f_is_row_of_body, inof_size_of, parsf_size_of, dflf_size_of, inof_is_whole, parsf_is_whole, dflf_is_whole, glf_is_row_of_MOST_SIZE, isRowD, hq]
    | true =>
      obtain ⟨r, rfl⟩ := letOk_all hq
      have hr : r.length ≤ 16777216 := by simpa using hl
      simp! [f_is_row_of_body, inof_size_of, parsf_size_of, dflf_size_of, inof_is_whole, parsf_is_whole, dflf_is_whole, glf_is_row_of_MOST_SIZE, isRowD, hq, size_of_s, toI_map]
  | non => simp! [f_is_row_of_body, inof_size_of, parsf_size_of, dflf_size_of, inof_is_whole, parsf_is_whole, dflf_is_whole, glf_is_row_of_MOST_SIZE, D.isTup, isRowD]
  | bl b => simp! [f_is_row_of_body, inof_size_of, parsf_size_of, dflf_size_of, inof_is_whole, parsf_is_whole, dflf_is_whole, glf_is_row_of_MOST_SIZE, D.isTup, isRowD]
  | int i => simp! [f_is_row_of_body, inof_size_of, parsf_size_of, dflf_size_of, inof_is_whole, parsf_is_whole, dflf_is_whole, glf_is_row_of_MOST_SIZE, D.isTup, isRowD]
  | str x => simp! [f_is_row_of_body, inof_size_of, parsf_size_of, dflf_size_of, inof_is_whole, parsf_is_whole, dflf_is_whole, glf_is_row_of_MOST_SIZE, D.isTup, isRowD]
  | lst xs => simp! [f_is_row_of_body, inof_size_of, parsf_size_of, dflf_size_of, inof_is_whole, parsf_is_whole, dflf_is_whole, glf_is_row_of_MOST_SIZE, D.isTup, isRowD]
  | dic ks vs => simp! [f_is_row_of_body, inof_size_of, parsf_size_of, dflf_size_of, inof_is_whole, parsf_is_whole, dflf_is_whole, glf_is_row_of_MOST_SIZE, D.isTup, isRowD]
  | fn x => exact Bool.noConfusion hb
  | exc c pl => exact Bool.noConfusion hb
  | scr ns => exact Bool.noConfusion hb
theorem row_look {r : List Int} (h : r.length ≤ 16777216) : look2 (row r) = true := by
  show ((r.map D.int).all D.tame && decide ((r.map D.int).length ≤ 16777216)) = true
  rw [List.length_map, decide_eq_true h, Bool.and_true, List.all_eq_true]
  intro x hx
  obtain ⟨i, _, rfl⟩ := List.mem_map.mp hx
  rfl
theorem is_row_of_r [H_f_is_row_of P] {h : Int} {r : List Int} (hr : RowOk h r) : P.call (n + 2) "is_row_of" [.int h, row r] = .ok (.val (.bl true)) [] := by
  rw [is_row_of_s (row_look (by have := hr.len; omega)), isRow_row, decide_eq_true hr]
theorem law_is_row_s [H_f_law_is_row P] {h : Int} {d : D} (hd : look2 d = true) : P.call (n + 2) "_law_is_row" [.int h, d] = .ok (.val (.bl (isRowD h d))) [] := by
  have hb := look2_base hd
  rw [runf_law_is_row]
  cases d with
  | tup xs =>
    have hd' : (xs.all D.tame && decide (xs.length ≤ 16777216)) = true := hd
    rw [Bool.and_eq_true, List.all_eq_true] at hd'
    have hl := of_decide_eq_true hd'.2
    have hx := hd'.1
    simp! [f_law_is_row_body, inof_law_size, parsf_law_size, dflf_law_size, inof_law_is_number, parsf_law_is_number, dflf_law_is_number]
    have e := kComp_filter (F := P.ifc (P.call (n + 1))) (ρ := [.val (.int h), .val (.tup xs), .no]) (e := id) (e' := id) (l := xs) (own := [2]) (tg := .sl 2) (w := [1]) (elt := .slot 2) (ifs := [.orE (.notE (.call "_law_is_number" [.slot 2] [] [])) (.notE (.chain .le .le (.lit (.int 0)) (.slot 2) (.slot 0)))]) (fun d => !letOk h d) id (by rfl) (fun x hx' => by
      have hb := tame_base (hx x hx')
      have e1 := law_is_number_s (P := P) (n := n) hb
      cases x with
      | int i =>
        by_cases h1 : 0 ≤ i <;> by_cases h2 : i ≤ h <;> simp! [f_law_is_row_body, inof_law_size, parsf_law_size, dflf_law_size, inof_law_is_number, parsf_law_is_number, dflf_law_is_number, id_eq, e1, D.whole, letOk, h1, h2, Bool.not_true]
      | _ => simp! [f_law_is_row_body, inof_law_size, parsf_law_size, dflf_law_size, inof_law_is_number, parsf_law_is_number, dflf_law_is_number, id_eq, e1, D.whole, letOk]) hl
    rw [List.map_id, List.map_id, List.map_id] at e
    rw [e]
    have hf : (D.lst (xs.filter fun d => !letOk h d)).eqOk = true := listOk (k := 40) (by omega) (fun x hx' => tame_plain (hx x (List.mem_filter.mp hx').1))
    have hq : (xs.filter fun d => !letOk h d).isEmpty = xs.all (letOk h) := by
      rw [Bool.eq_iff_iff, List.isEmpty_iff, List.filter_eq_nil_iff, List.all_eq_true]
      simp
    simp! [f_law_is_row_body, inof_law_size, parsf_law_size, dflf_law_size, inof_law_is_number, parsf_law_is_number, dflf_law_is_number, cmp_neNil, hq, Bool.not_not, -cmp_neL0]
    cases hq : xs.all (letOk h) with
    | false =>
      simp! [f_law_is_row_body, inof_law_size, parsf_law_size, dflf_law_size, inof_law_is_number, parsf_law_is_number, dflf_law_is_number, isRowD, hq]
    | true =>
      obtain ⟨r, rfl⟩ := letOk_all hq
      have hr : r.length ≤ 16777216 := by simpa using hl
      simp! [f_law_is_row_body, inof_law_size, parsf_law_size, dflf_law_size, inof_law_is_number, parsf_law_is_number, dflf_law_is_number, isRowD, hq, law_size_s, toI_map]
      exact congrArg (fun b => CRes.ok (.val (.bl b)) []) (decide_eq_decide.mpr (by omega))
  | non => simp! [f_law_is_row_body, inof_law_size, parsf_law_size, dflf_law_size, inof_law_is_number, parsf_law_is_number, dflf_law_is_number, D.isTup, isRowD]
  | bl b => simp! [f_law_is_row_body, inof_law_size, parsf_law_size, dflf_law_size, inof_law_is_number, parsf_law_is_number, dflf_law_is_number, D.isTup, isRowD]
  | int i => simp! [f_law_is_row_body, inof_law_size, parsf_law_size, dflf_law_size, inof_law_is_number, parsf_law_is_number, dflf_law_is_number, D.isTup, isRowD]
  | str x => simp! [f_law_is_row_body, inof_law_size, parsf_law_size, dflf_law_size, inof_law_is_number, parsf_law_is_number, dflf_law_is_number, D.isTup, isRowD]
  | lst xs => simp! [f_law_is_row_body, inof_law_size, parsf_law_size, dflf_law_size, inof_law_is_number, parsf_law_is_number, dflf_law_is_number, D.isTup, isRowD]
  | dic ks vs => simp! [f_law_is_row_body, inof_law_size, parsf_law_size, dflf_law_size, inof_law_is_number, parsf_law_is_number, dflf_law_is_number, D.isTup, isRowD]
  | fn x => exact Bool.noConfusion hb
  | exc c pl => exact Bool.noConfusion hb
  | scr ns => exact Bool.noConfusion hb
end Mini

/- R00b -/
set_option Elab.async false
set_option linter.all false
set_option maxRecDepth 100000
set_option maxHeartbeats 4000000
namespace Mini
open PySem
variable {P : Prog} {n : Nat}
theorem is_hues_s [H_f_is_hues P] {d : D} (hb : d.base = true) : P.call (n + 2) "is_hues" [d] = .ok (.val (.bl (isHuesD d))) [] := by
  have e1 := is_whole_s (P := P) (n := n) hb
  rw [runf_is_hues]
  cases d <;> simp! [f_is_hues_body, inof_is_whole, parsf_is_whole, dflf_is_whole, glf_is_hues_MOST_HUES, e1, D.whole, isHuesD]
theorem need_hues_ok [H_f_need_hues P] {h : Int} (h1 : 1 ≤ h) (h2 : h ≤ 3) : P.call (n + 3) "need_hues" [.int h] = .ok (.val .non) [] := by
  have e1 := is_hues_s (P := P) (n := n) (d := .int h) rfl
  rw [runf_need_hues]
  simp! [f_need_hues_body, inof_is_hues, parsf_is_hues, dflf_is_hues, e1, isHuesD, h1, h2]
theorem strNe (x y : Str) (h : (x == y) = false) (h1 : (D.str x).eqOk = true) (h2 : (D.str y).eqOk = true) : cmp .eq (.str x) (.str y) = some false := by
  show (if (D.str x).eqOk && (D.str y).eqOk then some (x == y) else none) = _
  rw [h1, h2, h]
  rfl
theorem strEq (x : Str) (h1 : (D.str x).eqOk = true) : cmp .eq (.str x) (.str x) = some true := by
  show (if (D.str x).eqOk && (D.str x).eqOk then some (x == x) else none) = _
  rw [h1]
  simp
theorem s_row_one : cmp .eq (.str "row") (.str "one") = some false := strNe _ _ (by decide +kernel) (by decide +kernel) (by decide +kernel)
theorem s_row_other : cmp .eq (.str "row") (.str "other") = some false := strNe _ _ (by decide +kernel) (by decide +kernel) (by decide +kernel)
theorem s_other_one : cmp .eq (.str "other") (.str "one") = some false := strNe _ _ (by decide +kernel) (by decide +kernel) (by decide +kernel)
theorem s_other_other : cmp .eq (.str "other") (.str "other") = some true := strEq _ (by decide +kernel)
theorem s_one_one : cmp .eq (.str "one") (.str "one") = some true := strEq _ (by decide +kernel)
theorem need_hues_bad [H_f_need_hues P] {d : D} (hb : d.base = true) (h : isHuesD d = false) : P.call (n + 3) "need_hues" [d] = .ex "BadHues" [] [] := by
  have e1 := is_hues_s (P := P) (n := n) hb
  rw [runf_need_hues]
  simp! [f_need_hues_body, inof_is_hues, parsf_is_hues, dflf_is_hues, e1, h]
  rw [kRaise_n (by decide)]
  simp! [and_self]
theorem need_row_ok [H_f_need_row P] {h : Int} {r : List Int} {w : D} (hr : RowOk h r) : P.call (n + 3) "need_row" [.int h, row r, w] = .ok (.val .non) [] := by
  have e1 := is_row_of_r (P := P) (n := n) hr
  rw [runf_need_row]
  simp! [f_need_row_body, inof_is_row_of, parsf_is_row_of, dflf_is_row_of, e1]
theorem need_row_bad [H_f_need_row P] {h : Int} {d : D} (hd : look2 d = true) (hr : isRowD h d = false) : P.call (n + 3) "need_row" [.int h, d, .str "row"] = .ex "BadRow" [] [] := by
  have e1 := is_row_of_s (P := P) (n := n) (h := h) hd
  rw [runf_need_row]
  simp! [f_need_row_body, inof_is_row_of, parsf_is_row_of, dflf_is_row_of, e1, hr, s_row_one, s_row_other]
  rw [kRaise_n (by decide)]
  simp! [and_self]
theorem need_row_bad1 [H_f_need_row P] {h : Int} {d : D} (hd : look2 d = true) (hr : isRowD h d = false) : P.call (n + 3) "need_row" [.int h, d, .str "one"] = .ex "BadOne" [] [] := by
  have e1 := is_row_of_s (P := P) (n := n) (h := h) hd
  rw [runf_need_row]
  simp! [f_need_row_body, inof_is_row_of, parsf_is_row_of, dflf_is_row_of, e1, hr, s_one_one]
  rw [kRaise_n (by decide)]
  simp! [and_self]
theorem need_row_bad2 [H_f_need_row P] {h : Int} {d : D} (hd : look2 d = true) (hr : isRowD h d = false) : P.call (n + 3) "need_row" [.int h, d, .str "other"] = .ex "BadOther" [] [] := by
  have e1 := is_row_of_s (P := P) (n := n) (h := h) hd
  rw [runf_need_row]
  simp! [f_need_row_body, inof_is_row_of, parsf_is_row_of, dflf_is_row_of, e1, hr, s_other_one, s_other_other]
  rw [kRaise_n (by decide)]
  simp! [and_self]
theorem law_no_row_s [H_f_law_no_row P] {d : Draw} (hd : DrawOk d) {h : Int} (h1 : 1 ≤ h) : ∃ (x : D) (d' : Draw), DrawOk d' ∧ look2 x = true ∧ isRowD h x = false ∧ P.call (n + 4) "_law_no_row" [drawD d, .int h] = .ok (.val x) [drawD d'] := by
  obtain ⟨x, d', hd, hx, e⟩ := law_pick_s (P := P) (n := n) hd (xs := [.non, .int 5, .str "01", .lst [.int 0, .int 1], tupE .int [h + 1], tupE .int [-1], .tup [.bl true], .tup [.str "0"], .tup [.int 0, .non], tupE .int (List.replicate 12 0 ++ [1]), tupE .int (List.replicate 25 1), .dic [] [], tupE (tupE .int) [[0]]]) (by simp) (by simp)
  refine ⟨x, d', hd, ?_, ?_, ?_⟩
  · simp at hx
    rcases hx with rfl | rfl | rfl | rfl | rfl | rfl | rfl | rfl | rfl | rfl | rfl | rfl | rfl <;> first | rfl | decide +kernel
  · simp only [List.mem_cons, List.not_mem_nil, or_false] at hx
    rcases hx with rfl | rfl | rfl | rfl | rfl | rfl | rfl | rfl | rfl | rfl | rfl | rfl | rfl
    all_goals first
      | rfl
      | (simp [isRowD, letOk]; done)
      | (rw [isRow_row, decide_eq_false]; rintro ⟨q, q2⟩; first | exact absurd q2 (by decide) | (have := q _ (List.mem_singleton.mpr rfl); omega))
  rw [runf_law_no_row]
  simp! [f_law_no_row_body, inof_law_pick, parsf_law_pick, dflf_law_pick, e]
theorem law_row_s [H_f_law_row P] {d : Draw} (hd : DrawOk d) {h : Int} (h1 : 1 ≤ h) (h3 : h ≤ 3) {m : Int} (m1 : 0 ≤ m) (m2 : m ≤ 1000) :
    ∃ (r : List Int) (d' : Draw), DrawOk d' ∧ (∀ x ∈ r, 0 ≤ x ∧ x ≤ h) ∧ sz r ≤ m ∧ P.call (n + 3) "_law_row" [drawD d, .int h, .int m] = .ok (.val (row r)) [drawD d'] := by
  obtain ⟨w, da, hda, hw, hw2, ea⟩ := law_take_s (P := P) (n := n) hd (a := 5) (by omega)
  obtain ⟨l, db, hdb, hl, hl2, eb⟩ := law_take_s (P := P) (n := n) hda (a := m + 1) (by omega)
  rw [runf_law_row]
  simp! [f_law_row_body, inof_law_take, parsf_law_take, dflf_law_take, ea, eb]
  obtain ⟨ρ', e, d', r, lf, s1, s2, rfl, hd', hr, hs⟩ := loop_rel (st := turnS (P.ifc (P.call (n + 2))) (.sl 6) f_law_row_b1) (e := natD)
    (fun _ ρ => ∃ (d' : Draw) (r : List Int) (lf : Int) (s1 s2 : Slot), ρ = [.ref (drawD d'), .val (.int h), .val (.int m), .val (.int w), .own (.lst (r.map .int)), .val (.int lf), s1, s2] ∧ DrawOk d' ∧ (∀ x ∈ r, 0 ≤ x ∧ x ≤ h) ∧ sz r + lf ≤ m ∧ 0 ≤ lf ∧ (s1 = .no ∨ ∃ v, s1 = .val v) ∧ (s2 = .no ∨ ∃ v, s2 = .val v))
    (List.range m.toNat) [.ref (drawD db), .val (.int h), .val (.int m), .val (.int w), .own (.lst []), .val (.int l), .no, .no]
    ⟨db, [], l, .no, .no, rfl, hdb, by simp, by simp [sz]; have := hl2 (by omega); omega, hl, .inl rfl, .inl rfl⟩ (by
      rintro x _ _ ⟨d1, r, lf, s1, s2, rfl, hd1, hr, hs, hlf, hs1, hs2⟩
      have hwb : w < 5 := hw2 (by omega)
      obtain ⟨k, d2, hd2, hk, hk2, e1⟩ := law_take_s (P := P) (n := n) hd1 (a := h + 1) (by omega)
      have hk3 := hk2 (by omega)
      have main : ∃ (d3 : Draw) (k3 : Int), DrawOk d3 ∧ 0 ≤ k3 ∧ k3 ≤ h ∧ turnS (P.ifc (P.call (n + 2))) (.sl 6) f_law_row_b1 (natD x) [.ref (drawD d1), .val (.int h), .val (.int m), .val (.int w), .own (.lst (r.map .int)), .val (.int lf), s1, s2]
          = denB (P.ifc (P.call (n + 2))) (f_law_row_b1.drop 2) [.ref (drawD d3), .val (.int h), .val (.int m), .val (.int w), .own (.lst (r.map .int)), .val (.int lf), .val (natD x), .val (.int k3)] := by
        by_cases w0 : w = 0
        · by_cases hx : (x : Int) < 3
          · exact ⟨d2, 0, hd2, by omega, by omega, by rcases hs1 with rfl | ⟨_, rfl⟩ <;> rcases hs2 with rfl | ⟨_, rfl⟩ <;> simp! [f_law_row_body, inof_law_take, parsf_law_take, dflf_law_take, f_law_row_b1, e1, w0, hx, List.drop_succ_cons, List.drop_zero]⟩
          · exact ⟨d2, k, hd2, by omega, by omega, by rcases hs1 with rfl | ⟨_, rfl⟩ <;> rcases hs2 with rfl | ⟨_, rfl⟩ <;> simp! [f_law_row_body, inof_law_take, parsf_law_take, dflf_law_take, f_law_row_b1, e1, w0, hx, List.drop_succ_cons, List.drop_zero]⟩
        by_cases w1 : w = 1
        · by_cases hx : (x : Int) < 3
          · obtain ⟨k', d3, hd3, hk', hk2', e2⟩ := law_take_s (P := P) (n := n) hd2 (a := h) (by omega)
            have := hk2' (by omega)
            exact ⟨d3, 1 + k', hd3, by omega, by omega, by rcases hs1 with rfl | ⟨_, rfl⟩ <;> rcases hs2 with rfl | ⟨_, rfl⟩ <;> simp! [f_law_row_body, inof_law_take, parsf_law_take, dflf_law_take, kIte_t, kIte_f, f_law_row_b1, e1, e2, w0, w1, hx, List.drop_succ_cons, List.drop_zero, -kIte_r]⟩
          · exact ⟨d2, k, hd2, by omega, by omega, by rcases hs1 with rfl | ⟨_, rfl⟩ <;> rcases hs2 with rfl | ⟨_, rfl⟩ <;> simp! [f_law_row_body, inof_law_take, parsf_law_take, dflf_law_take, kIte_t, kIte_f, f_law_row_b1, e1, w0, w1, hx, List.drop_succ_cons, List.drop_zero, -kIte_r]⟩
        by_cases w2 : w = 2
        · obtain ⟨k', d3, hd3, hk', hk2', e2⟩ := law_take_s (P := P) (n := n) hd2 (a := 4) (by omega)
          by_cases hx : 0 < k'
          · exact ⟨d3, 0, hd3, by omega, by omega, by rcases hs1 with rfl | ⟨_, rfl⟩ <;> rcases hs2 with rfl | ⟨_, rfl⟩ <;> simp! [f_law_row_body, inof_law_take, parsf_law_take, dflf_law_take, f_law_row_b1, e1, e2, w0, w1, w2, hx, List.drop_succ_cons, List.drop_zero]⟩
          · exact ⟨d3, k, hd3, by omega, by omega, by rcases hs1 with rfl | ⟨_, rfl⟩ <;> rcases hs2 with rfl | ⟨_, rfl⟩ <;> simp! [f_law_row_body, inof_law_take, parsf_law_take, dflf_law_take, f_law_row_b1, e1, e2, w0, w1, w2, hx, List.drop_succ_cons, List.drop_zero]⟩
        by_cases w3 : w = 3
        · obtain ⟨k', d3, hd3, hk', hk2', e2⟩ := law_take_s (P := P) (n := n) hd2 (a := 4) (by omega)
          by_cases hx : 0 < k'
          · obtain ⟨k'', d4, hd4, hk'', hk2'', e3⟩ := law_take_s (P := P) (n := n) hd3 (a := h) (by omega)
            have := hk2'' (by omega)
            exact ⟨d4, 1 + k'', hd4, by omega, by omega, by rcases hs1 with rfl | ⟨_, rfl⟩ <;> rcases hs2 with rfl | ⟨_, rfl⟩ <;> simp! [f_law_row_body, inof_law_take, parsf_law_take, dflf_law_take, kIte_t, kIte_f, f_law_row_b1, e1, e2, e3, w0, w1, w2, w3, hx, List.drop_succ_cons, List.drop_zero, -kIte_r]⟩
          · exact ⟨d3, k, hd3, by omega, by omega, by rcases hs1 with rfl | ⟨_, rfl⟩ <;> rcases hs2 with rfl | ⟨_, rfl⟩ <;> simp! [f_law_row_body, inof_law_take, parsf_law_take, dflf_law_take, kIte_t, kIte_f, f_law_row_b1, e1, e2, w0, w1, w2, w3, hx, List.drop_succ_cons, List.drop_zero, -kIte_r]⟩
        exact ⟨d2, k, hd2, by omega, by omega, by rcases hs1 with rfl | ⟨_, rfl⟩ <;> rcases hs2 with rfl | ⟨_, rfl⟩ <;> simp! [f_law_row_body, inof_law_take, parsf_law_take, dflf_law_take, f_law_row_b1, e1, w0, w1, w2, w3, List.drop_succ_cons, List.drop_zero]⟩
      obtain ⟨d3, k3, hd3, q1, q2, e3⟩ := main
      rw [e3]
      have hl := (sz_len r).1
      have hpos : 0 ≤ sz r := by omega
      by_cases hk0 : k3 = 0
      · by_cases hle : 2 ≤ lf
        · simp! [f_law_row_body, inof_law_take, parsf_law_take, dflf_law_take, f_law_row_b1, List.drop_succ_cons, List.drop_zero, hk0, ge_iff_le, hle]
          refine ⟨d3, r ++ [0], lf - 1 - 1, _, _, rfl, hd3, ?_, ?_, ?_, .inr ⟨_, rfl⟩, .inr ⟨_, rfl⟩⟩
          · intro y hy
            rcases List.mem_append.mp hy with hy | hy
            · exact hr y hy
            · rw [List.mem_singleton.mp hy]; omega
          · rw [sz_append]; show sz r + 2 + (lf - 1 - 1) ≤ m; omega
          · omega
        · simp! [f_law_row_body, inof_law_take, parsf_law_take, dflf_law_take, f_law_row_b1, List.drop_succ_cons, List.drop_zero, hk0, ge_iff_le, hle]
          exact ⟨d3, r, lf, _, _, rfl, hd3, hr, hs, hlf, .inr ⟨_, rfl⟩, .inr ⟨_, rfl⟩⟩
      · by_cases hle : 1 ≤ lf
        · simp! [f_law_row_body, inof_law_take, parsf_law_take, dflf_law_take, f_law_row_b1, List.drop_succ_cons, List.drop_zero, hk0, ge_iff_le, Int.add_zero, Int.sub_zero, hle]
          refine ⟨d3, r ++ [k3], lf - 1, _, _, rfl, hd3, ?_, ?_, ?_, .inr ⟨_, rfl⟩, .inr ⟨_, rfl⟩⟩
          · intro y hy
            rcases List.mem_append.mp hy with hy | hy
            · exact hr y hy
            · rw [List.mem_singleton.mp hy]; omega
          · rw [sz_append, sz_cons, sz_nil]; unfold letS; rw [if_neg hk0]; omega
          · omega
        · simp! [f_law_row_body, inof_law_take, parsf_law_take, dflf_law_take, f_law_row_b1, List.drop_succ_cons, List.drop_zero, hk0, ge_iff_le, Int.add_zero, hle]
          exact ⟨d3, r, lf, _, _, rfl, hd3, hr, hs, hlf, .inr ⟨_, rfl⟩, .inr ⟨_, rfl⟩⟩)
  rw [e]
  refine ⟨r, d', hd', hr, by omega, ?_⟩
  simp! [f_law_row_body, inof_law_take, parsf_law_take, dflf_law_take]
end Mini

/- R00c -/
set_option Elab.async false
set_option linter.all false
set_option maxRecDepth 100000
set_option maxHeartbeats 4000000
namespace Mini
open PySem
variable {P : Prog} {n : Nat}
theorem lt_pow_of_bits {z : Int} {B : Nat} (h : Builtin.Int.intBits z ≤ B) : z.natAbs < 2 ^ B := by
  unfold Builtin.Int.intBits at h
  split at h
  · rename_i h0
    have : z = 0 := by simpa using h0
    subst this
    exact Nat.two_pow_pos B
  · rename_i h0
    have h1 : z.natAbs ≠ 0 := by simp at h0; omega
    exact (Nat.log2_lt h1).mp (by omega)
theorem begun_dict {w : Int} {cs : List Int} : (D.dic (mergeKV [] [] [D.str "whole", D.str "cells", D.str "count"] [D.int w, D.lst (cs.map .int), D.int 0]).1 (mergeKV [] [] [D.str "whole", D.str "cells", D.str "count"] [D.int w, D.lst (cs.map .int), D.int 0]).2) = drawD ⟨w, cs, 0⟩ := by rfl
theorem law_begun_B [H_f_law_begun P] {ns : List Int} {B : Nat} (h1 : ns.length ≤ 63) (hB : 64 * B ≤ 134217728) (h2 : ∀ z ∈ ns, Builtin.Int.intBits z ≤ B) : ∃ d : Draw, DrawOk d ∧ P.call (n + 1) "_law_begun" [.scr ns] = .ok (.own (drawD d)) [] := by
  rw [runf_law_begun]
  simp! [f_law_begun_body]
  obtain ⟨ρ', e, w, cs, s, rfl, hw, hw2, hl, -, -⟩ := loop_rel (st := turnS (P.ifc (P.call n)) (.sl 3) f_law_begun_b1) (e := D.int)
    (fun l ρ => ∃ (w : Int) (cs : List Int) (s : Slot), ρ = [.val (.scr ns), .val (.int w), .own (.lst (cs.map .int)), s] ∧ 0 ≤ w ∧ w.natAbs + 1 ≤ 2 ^ (cs.length * B) ∧ cs.length + l.length = ns.length ∧ (∀ z ∈ l, z ∈ ns) ∧ (s = .no ∨ ∃ v, s = .val v))
    ns [.val (.scr ns), .val (.int 0), .own (.lst []), .no] ⟨0, [], .no, rfl, by omega, by simp, by simp, fun _ h => h, .inl rfl⟩ (by
      rintro x r _ ⟨w, cs, s, rfl, hw, hw2, hl, hm, hs⟩
      have hx := lt_pow_of_bits (h2 x (hm x (by simp)))
      rw [List.length_cons] at hl
      have hlen : cs.length ≤ 63 := by omega
      have hmr : ∀ z ∈ r, z ∈ ns := fun z hz => hm z (by simp [hz])
      have hstep : 2 ^ (cs.length * B) ≤ 2 ^ ((cs.length + 1) * B) := Nat.pow_le_pow_right (by omega) (Nat.mul_le_mul_right B (by omega))
      by_cases hge : 1000000000000000000 ≤ x
      · have hmul : mulOk w (x - 1000000000000000000 + 1) = true := mulOk_bits (x := 63 * B) (y := B) (by
            have : 2 ^ (cs.length * B) ≤ 2 ^ (63 * B) := Nat.pow_le_pow_right (by omega) (Nat.mul_le_mul_right B hlen)
            omega) (by omega) (by omega)
        have hnew : (w * (x - 1000000000000000000 + 1) + (x - 1000000000000000000)).natAbs + 1 ≤ 2 ^ ((cs.length + 1) * B) := by
          have e1 : (2 : Nat) ^ ((cs.length + 1) * B) = 2 ^ (cs.length * B) * 2 ^ B := by rw [Nat.add_mul, Nat.one_mul, Nat.pow_add]
          obtain ⟨a, rfl⟩ := Int.eq_ofNat_of_zero_le hw
          obtain ⟨c, hc⟩ := Int.eq_ofNat_of_zero_le (show 0 ≤ x - 1000000000000000000 by omega)
          rw [hc, e1]
          have h3 : ((a : Int) * ((c : Int) + 1) + (c : Int)).natAbs + 1 = (a + 1) * (c + 1) := by
            have : (a : Int) * ((c : Int) + 1) + (c : Int) = ((a * (c + 1) + c : Nat) : Int) := by push_cast; rfl
            rw [this, Int.natAbs_natCast, Nat.add_mul]
            omega
          rw [h3]
          exact Nat.mul_le_mul (by simpa using hw2) (by omega)
        have hnn : 0 ≤ w * (x - 1000000000000000000 + 1) + (x - 1000000000000000000) := Int.add_nonneg (Int.mul_nonneg hw (by omega)) (by omega)
        rcases hs with rfl | ⟨_, rfl⟩ <;> simp! [f_law_begun_body, f_law_begun_b1, ge_iff_le, hge, op_mul hmul] <;> exact ⟨_, _, _, rfl, hnn, by rw [List.length_append]; exact hnew, by rw [List.length_append]; simp; omega, hmr, .inr ⟨_, rfl⟩⟩
      · rcases hs with rfl | ⟨_, rfl⟩ <;> simp! [f_law_begun_body, f_law_begun_b1, ge_iff_le, hge] <;> exact ⟨_, _, _, rfl, hw, by rw [List.length_append]; exact Nat.le_trans hw2 hstep, by rw [List.length_append]; simp; omega, hmr, .inr ⟨_, rfl⟩⟩)
  rw [e]
  refine ⟨⟨w, cs, 0⟩, by unfold DrawOk; simp at hl; simp; omega, ?_⟩
  simp! [f_law_begun_body]
  rw [begun_dict]
theorem law_begun_s [H_f_law_begun P] {ns : List Int} (h1 : ns.length ≤ 63) (h2 : ∀ z ∈ ns, Builtin.Int.intBits z ≤ 1048576) : ∃ d : Draw, DrawOk d ∧ P.call (n + 1) "_law_begun" [.scr ns] = .ok (.own (drawD d)) [] := law_begun_B h1 (by omega) h2
theorem is_row_s [H_f_is_row P] {h : Int} (h1 : 1 ≤ h) (h2 : h ≤ 3) {d : D} (hd : look2 d = true) : P.call (n + 4) "is_row" [.int h, d] = .ok (.val (.bl (isRowD h d))) [] := by
  have e1 := need_hues_ok (P := P) (n := n) h1 h2
  have e2 := is_row_of_s (P := P) (n := n + 1) (h := h) hd
  rw [runf_is_row]
  simp! [f_is_row_body, inof_need_hues, parsf_need_hues, dflf_need_hues, inof_is_row_of, parsf_is_row_of, dflf_is_row_of, e1, e2]
theorem is_row_bad [H_f_is_row P] {x d : D} (hb : x.base = true) (h : isHuesD x = false) : P.call (n + 4) "is_row" [x, d] = .ex "BadHues" [] [] := by
  have e1 := need_hues_bad (P := P) (n := n) hb h
  rw [runf_is_row]
  simp! [f_is_row_body, inof_need_hues, parsf_need_hues, dflf_need_hues, inof_is_row_of, parsf_is_row_of, dflf_is_row_of, e1]
theorem size_s [H_f_size P] {h : Int} (h1 : 1 ≤ h) (h2 : h ≤ 3) {r : List Int} (hr : RowOk h r) : P.call (n + 4) "size" [.int h, row r] = .ok (.val (.int (sz r))) [] := by
  have e1 := need_hues_ok (P := P) (n := n) h1 h2
  have e2 := need_row_ok (P := P) (n := n) (w := .str "row") hr
  have e3 := size_of_s (P := P) (n := n + 2) (r := r) (by have := hr.len; omega)
  rw [runf_size]
  simp! [f_size_body, inof_need_hues, parsf_need_hues, dflf_need_hues, inof_need_row, parsf_need_row, dflf_need_row, inof_size_of, parsf_size_of, dflf_size_of, arr_need_row_2, e1, e2, e3, arr_need_row_2]
theorem size_bad [H_f_size P] {x d : D} (hb : x.base = true) (h : isHuesD x = false) : P.call (n + 4) "size" [x, d] = .ex "BadHues" [] [] := by
  have e1 := need_hues_bad (P := P) (n := n) hb h
  rw [runf_size]
  simp! [f_size_body, inof_need_hues, parsf_need_hues, dflf_need_hues, inof_need_row, parsf_need_row, dflf_need_row, inof_size_of, parsf_size_of, dflf_size_of, arr_need_row_2, e1]
theorem size_badR [H_f_size P] {h : Int} (h1 : 1 ≤ h) (h2 : h ≤ 3) {d : D} (hd : look2 d = true) (hr : isRowD h d = false) : P.call (n + 4) "size" [.int h, d] = .ex "BadRow" [] [] := by
  have e1 := need_hues_ok (P := P) (n := n) h1 h2
  have e2 := need_row_bad (P := P) (n := n) hd hr
  rw [runf_size]
  simp! [f_size_body, inof_need_hues, parsf_need_hues, dflf_need_hues, inof_need_row, parsf_need_row, dflf_need_row, inof_size_of, parsf_size_of, dflf_size_of, arr_need_row_2, e1, e2, arr_need_row_2]
end Mini

/- X02 -/
set_option Elab.async false
set_option linter.all false
set_option maxRecDepth 100000
/-! X02: steps up and down, plainly -/
namespace Mini
def sing (h : Int) : List Int := (List.range h.toNat).map fun k : Nat => 1 + (k : Int)
theorem sing_mem {h u : Int} : u ∈ sing h ↔ 1 ≤ u ∧ u ≤ h := by
  unfold sing
  rw [List.mem_map]
  constructor
  · rintro ⟨k, hk, rfl⟩
    rw [List.mem_range] at hk
    omega
  · rintro ⟨h1, h2⟩
    exact ⟨(u - 1).toNat, by rw [List.mem_range]; omega, by omega⟩
theorem sing_len {h : Int} : (sing h).length = h.toNat := by simp [sing]
/-- steps down, as they come -/
def downsU (h : Int) : List Int → List (List Int)
  | [] => []
  | a :: v => if a = 0 then (sing h).map (· :: v) ++ (downsU h v).map (0 :: ·) else [v]
/-- steps up, as they come -/
def upsU (h : Int) (r : List Int) : List (List Int) := (sing h).map (· :: r) ++ (downsU h r).map (0 :: ·)
theorem downsU0 {h : Int} {v : List Int} : downsU h (0 :: v) = upsU h v := by
  show (if (0 : Int) = 0 then _ else _) = _
  rw [if_pos rfl]
  rfl
theorem downsUs {h a : Int} {v : List Int} (ha : a ≠ 0) : downsU h (a :: v) = [v] := if_neg ha
def ups (h : Int) (r : List Int) : List (List Int) := srt (upsU h r)
def downs (h : Int) (r : List Int) : List (List Int) := srt (downsU h r)
def leadN : List Int → Nat
  | [] => 0
  | a :: v => if a = 0 then leadN v + 1 else 0
theorem leadN_le : ∀ r : List Int, leadN r ≤ r.length
  | [] => Nat.le_refl 0
  | a :: v => by
    unfold leadN
    have := leadN_le v
    split <;> simp <;> omega
theorem upsP_eq {h : Int} : ∀ r : List Int, (List.range (leadN r + 1)).flatMap (fun at' => (sing h).map fun u => r.take at' ++ u :: r.drop at') ++ (if leadN r < r.length then [r.take (leadN r) ++ 0 :: r.drop (leadN r + 1)] else []) = upsU h r
  | [] => by simp [leadN, upsU, downsU]
  | a :: v => by
    by_cases ha : a = 0
    · subst ha
      have ih := upsP_eq (h := h) v
      have e1 : leadN (0 :: v) = leadN v + 1 := by simp [leadN]
      rw [e1, List.range_succ_eq_map, List.flatMap_cons, List.flatMap_map]
      simp only [List.take_zero, List.nil_append, List.drop_zero, Function.comp_apply, Nat.succ_eq_add_one, List.take_succ_cons, List.drop_succ_cons, List.length_cons, Nat.add_lt_add_iff_right]
      unfold upsU
      rw [downsU0, ← ih, List.map_append, List.map_flatMap, List.append_assoc]
      congr 1
      congr 1
      · simp [Function.comp_def]
      · split <;> simp
    · have e1 : leadN (a :: v) = 0 := by simp [leadN, ha]
      rw [e1]
      simp [upsU, downsUs ha, List.range_succ]
theorem downsP_eq {h : Int} : ∀ r : List Int, (List.range (leadN r)).flatMap (fun at' => (sing h).map fun u => r.take at' ++ u :: r.drop (at' + 1)) ++ (if leadN r < r.length then [r.take (leadN r) ++ r.drop (leadN r + 1)] else []) = downsU h r
  | [] => by simp [leadN, downsU]
  | a :: v => by
    by_cases ha : a = 0
    · subst ha
      have ih := downsP_eq (h := h) v
      have e1 : leadN (0 :: v) = leadN v + 1 := by simp [leadN]
      rw [e1, List.range_succ_eq_map, List.flatMap_cons, List.flatMap_map, downsU0]
      simp only [List.take_zero, List.nil_append, List.drop_zero, Function.comp_apply, Nat.succ_eq_add_one, List.take_succ_cons, List.drop_succ_cons, List.length_cons, Nat.add_lt_add_iff_right]
      unfold upsU
      rw [← ih, List.map_append, List.map_flatMap, List.append_assoc]
      congr 1
      congr 1
      · simp [Function.comp_def]
      · split <;> simp
    · have e1 : leadN (a :: v) = 0 := by simp [leadN, ha]
      rw [e1]
      simp [downsUs ha]
theorem upsU_ne {h : Int} {r x : List Int} (hx : x ∈ upsU h r) : x ≠ [] := by
  unfold upsU at hx
  rw [List.mem_append, List.mem_map, List.mem_map] at hx
  rcases hx with ⟨_, _, rfl⟩ | ⟨_, _, rfl⟩ <;> simp
theorem downsU_ne {h : Int} : ∀ r : List Int, (downsU h r).length ≤ 1 ∨ ∀ a ∈ downsU h r, a ≠ []
  | [] => .inl (by simp [downsU])
  | a :: v => by
    by_cases ha : a = 0
    · subst ha
      rw [downsU0]
      exact .inr fun a => upsU_ne
    · rw [downsUs ha]
      exact .inl (by simp)
theorem downsU_len {h : Int} : ∀ r : List Int, (downsU h r).length ≤ r.length * h.toNat + 1
  | [] => by simp [downsU]
  | a :: v => by
    have ih := downsU_len (h := h) v
    by_cases ha : a = 0
    · subst ha
      rw [downsU0]
      unfold upsU
      rw [List.length_append, List.length_map, List.length_map, sing_len, List.length_cons, Nat.add_mul]
      omega
    · rw [downsUs ha]
      simp
theorem upsU_len {h : Int} {r : List Int} : (upsU h r).length ≤ (r.length + 1) * h.toNat + 1 := by
  have := downsU_len (h := h) r
  unfold upsU
  rw [List.length_append, List.length_map, List.length_map, sing_len, Nat.add_mul]
  omega
theorem upsU_bound {h : Int} {r : List Int} (h3 : h ≤ 3) (hr : r.length ≤ 1000) : (upsU h r).length ≤ 10000 := by
  have := upsU_len (h := h) (r := r)
  have h2 : (r.length + 1) * h.toNat ≤ 1001 * 3 := Nat.mul_le_mul (by omega) (by omega)
  omega
theorem downsU_bound {h : Int} {r : List Int} (h3 : h ≤ 3) (hr : r.length ≤ 1000) : (downsU h r).length ≤ 10000 := by
  have := downsU_len (h := h) r
  have h2 : r.length * h.toNat ≤ 1000 * 3 := Nat.mul_le_mul (by omega) (by omega)
  omega
end Mini

/- X03 -/
set_option Elab.async false
set_option linter.all false
set_option maxRecDepth 100000
/-! X03: what steps are: sizes, letters, no row twice, common steps -/
namespace Mini
theorem mem_upsU {h : Int} {r x : List Int} : x ∈ upsU h r ↔ (∃ u, (1 ≤ u ∧ u ≤ h) ∧ x = u :: r) ∨ ∃ z ∈ downsU h r, x = 0 :: z := by
  unfold upsU
  rw [List.mem_append, List.mem_map, List.mem_map]
  constructor
  · rintro (⟨u, hu, rfl⟩ | ⟨z, hz, rfl⟩)
    · exact .inl ⟨u, sing_mem.mp hu, rfl⟩
    · exact .inr ⟨z, hz, rfl⟩
  · rintro (⟨u, hu, rfl⟩ | ⟨z, hz, rfl⟩)
    · exact .inl ⟨u, sing_mem.mpr hu, rfl⟩
    · exact .inr ⟨z, hz, rfl⟩
theorem mem_ups {h : Int} {r x : List Int} : x ∈ ups h r ↔ x ∈ upsU h r := srt_mem
theorem mem_downs {h : Int} {r x : List Int} : x ∈ downs h r ↔ x ∈ downsU h r := srt_mem
def Lets (h : Int) (r : List Int) : Prop := ∀ x ∈ r, 0 ≤ x ∧ x ≤ h
theorem Lets.cons {h a : Int} {r : List Int} : Lets h (a :: r) ↔ (0 ≤ a ∧ a ≤ h) ∧ Lets h r := by simp [Lets]
theorem Lets.nil {h : Int} : Lets h [] := by simp [Lets]
mutual
theorem downsU_ok {h : Int} (h1 : 1 ≤ h) : ∀ {r x : List Int}, Lets h r → x ∈ downsU h r → Lets h x ∧ sz x + 1 = sz r
  | [], _, _, hx => by simp [downsU] at hx
  | a :: v, x, hr, hx => by
    have hr' := Lets.cons.mp hr
    by_cases ha : a = 0
    · subst ha
      rw [downsU0] at hx
      have := upsU_ok h1 hr'.2 hx
      refine ⟨this.1, ?_⟩
      rw [this.2, sz_cons]
      show _ = 2 + sz v
      omega
    · rw [downsUs ha, List.mem_singleton] at hx
      subst hx
      refine ⟨hr'.2, ?_⟩
      rw [sz_cons]
      unfold letS
      rw [if_neg ha]
      omega
termination_by r => (r.length, 0)
decreasing_by all_goals simp_wf; omega
theorem upsU_ok {h : Int} (h1 : 1 ≤ h) : ∀ {r x : List Int}, Lets h r → x ∈ upsU h r → Lets h x ∧ sz x = sz r + 1
  | r, x, hr, hx => by
    rcases mem_upsU.mp hx with ⟨u, hu, rfl⟩ | ⟨z, hz, rfl⟩
    · refine ⟨Lets.cons.mpr ⟨by omega, hr⟩, ?_⟩
      rw [sz_cons]
      unfold letS
      rw [if_neg (by omega)]
      omega
    · have := downsU_ok h1 hr hz
      refine ⟨Lets.cons.mpr ⟨by omega, this.1⟩, ?_⟩
      rw [sz_cons]
      show 2 + sz z = _
      omega
termination_by r => (r.length, 1)
decreasing_by all_goals simp_wf; omega
end
theorem downsU_some {h : Int} (h1 : 1 ≤ h) {a : Int} {v : List Int} : downsU h (a :: v) ≠ [] := by
  by_cases ha : a = 0
  · subst ha
    rw [downsU0]
    intro e
    have : (1 :: v) ∈ upsU h v := mem_upsU.mpr (.inl ⟨1, by omega, rfl⟩)
    rw [e] at this
    cases this
  · rw [downsUs ha]
    simp
theorem upsU_some {h : Int} (h1 : 1 ≤ h) {v : List Int} : upsU h v ≠ [] := by
  intro e
  have : (1 :: v) ∈ upsU h v := mem_upsU.mpr (.inl ⟨1, by omega, rfl⟩)
  rw [e] at this
  cases this
theorem nodup_map {α β : Type} {f : α → β} (hf : ∀ a b, f a = f b → a = b) {l : List α} (h : l.Nodup) : (l.map f).Nodup := List.pairwise_map.mpr (List.Pairwise.imp (fun hab e => hab (hf _ _ e)) h)
theorem sing_nodup {h : Int} : (sing h).Nodup := by
  unfold sing
  exact nodup_map (fun a b e => by omega) List.nodup_range
theorem downsU_nodup {h : Int} : ∀ r : List Int, (downsU h r).Nodup
  | [] => by simp [downsU]
  | a :: v => by
    have ih := downsU_nodup (h := h) v
    by_cases ha : a = 0
    · subst ha
      rw [downsU0]
      unfold upsU
      rw [List.nodup_append]
      refine ⟨nodup_map (fun a b e => by injection e) sing_nodup, nodup_map (fun a b e => by injection e) ih, ?_⟩
      intro x hx y hy e
      obtain ⟨u, hu, rfl⟩ := List.mem_map.mp hx
      obtain ⟨z, hz, rfl⟩ := List.mem_map.mp hy
      have := sing_mem.mp hu
      injection e with e
      omega
    · rw [downsUs ha]
      simp
theorem upsU_nodup {h : Int} {r : List Int} : (upsU h r).Nodup := by
  rw [← downsU0]
  exact downsU_nodup _
theorem ups_common {h : Int} {u v x : List Int} (huv : u ≠ v) (hu : x ∈ upsU h u) (hv : x ∈ upsU h v) : ∃ z, x = 0 :: z ∧ z ∈ downsU h u ∧ z ∈ downsU h v := by
  rcases mem_upsU.mp hu with ⟨a, ha, rfl⟩ | ⟨z, hz, rfl⟩
  · rcases mem_upsU.mp hv with ⟨b, hb, e⟩ | ⟨w, hw, e⟩
    · injection e with e1 e2
      exact absurd e2 huv
    · injection e with e1 e2
      omega
  · rcases mem_upsU.mp hv with ⟨b, hb, e⟩ | ⟨w, hw, e⟩
    · injection e with e1 e2
      omega
    · injection e with e1 e2
      exact ⟨z, rfl, hz, by rw [e2]; exact hw⟩
theorem common_one {h : Int} : ∀ {u v z z' : List Int}, u ≠ v → z ∈ downsU h u → z ∈ downsU h v → z' ∈ downsU h u → z' ∈ downsU h v → z = z'
  | [], _, _, _, _, h1, _, _, _ => by simp [downsU] at h1
  | _ :: _, [], _, _, _, _, h2, _, _ => by simp [downsU] at h2
  | a :: x, b :: y, z, z', huv, h1, h2, h3, h4 => by
    by_cases ha : a = 0
    · subst ha
      by_cases hb : b = 0
      · subst hb
        rw [downsU0] at h1 h2 h3 h4
        have hxy : x ≠ y := fun e => huv (by rw [e])
        obtain ⟨w, rfl, w1, w2⟩ := ups_common hxy h1 h2
        obtain ⟨w', rfl, w3, w4⟩ := ups_common hxy h3 h4
        rw [common_one hxy w1 w2 w3 w4]
      · rw [downsUs hb, List.mem_singleton] at h2 h4
        rw [h2, h4]
    · rw [downsUs ha, List.mem_singleton] at h1 h3
      rw [h1, h3]
theorem short_of_one {α : Type} {l : List α} (hn : l.Nodup) (h : ∀ a ∈ l, ∀ b ∈ l, a = b) : l.length ≤ 1 := by
  match l, hn, h with
  | [], _, _ => simp
  | [_], _, _ => simp
  | a :: b :: l, hn, h =>
    have := h a (by simp) b (by simp)
    subst this
    simp at hn
theorem common_lists {h : Int} {u v : List Int} (huv : u ≠ v) : (ups h u).filter (fun x => memB x (ups h v)) = ((downs h u).filter (fun x => memB x (downs h v))).map (0 :: ·) ∧ ((ups h u).filter (fun x => memB x (ups h v))).length ≤ 1 := by
  have hb : ((downs h u).filter (fun x => memB x (downs h v))).length ≤ 1 := by
    refine short_of_one ((srt_perm (downsU h u)).nodup_iff.mpr (downsU_nodup u) |>.filter _) fun a ha b hb => ?_
    simp only [List.mem_filter, memB_iff, mem_downs] at ha hb
    exact common_one huv ha.1 ha.2 hb.1 hb.2
  have ha : ((ups h u).filter (fun x => memB x (ups h v))).length ≤ 1 := by
    refine short_of_one ((srt_perm (upsU h u)).nodup_iff.mpr upsU_nodup |>.filter _) fun a ha b hb => ?_
    simp only [List.mem_filter, memB_iff, mem_ups] at ha hb
    obtain ⟨w, rfl, w1, w2⟩ := ups_common huv ha.1 ha.2
    obtain ⟨w', rfl, w3, w4⟩ := ups_common huv hb.1 hb.2
    rw [common_one huv w1 w2 w3 w4]
  refine ⟨?_, ha⟩
  have mem : ∀ x, x ∈ (ups h u).filter (fun x => memB x (ups h v)) ↔ x ∈ ((downs h u).filter (fun x => memB x (downs h v))).map (0 :: ·) := by
    intro x
    simp only [List.mem_filter, memB_iff, mem_ups, mem_downs, List.mem_map]
    constructor
    · rintro ⟨a1, a2⟩
      obtain ⟨w, rfl, w1, w2⟩ := ups_common huv a1 a2
      exact ⟨w, ⟨w1, w2⟩, rfl⟩
    · rintro ⟨w, ⟨w1, w2⟩, rfl⟩
      exact ⟨mem_upsU.mpr (.inr ⟨w, w1, rfl⟩), mem_upsU.mpr (.inr ⟨w, w2, rfl⟩)⟩
  generalize (ups h u).filter (fun x => memB x (ups h v)) = l at *
  have hm : (((downs h u).filter (fun x => memB x (downs h v))).map (0 :: ·)).length ≤ 1 := by rw [List.length_map]; exact hb
  generalize ((downs h u).filter (fun x => memB x (downs h v))).map (0 :: ·) = m at *
  match l, m, ha, hm, mem with
  | [], [], _, _, _ => rfl
  | [], b :: _, _, _, mem => exact absurd ((mem b).mpr (by simp)) (by simp)
  | a :: _, [], _, _, mem => exact absurd ((mem a).mp (by simp)) (by simp)
  | [a], [b], _, _, mem =>
    have := (mem a).mp (by simp)
    simp at this
    rw [this]
  | _ :: _ :: _, _, ha, _, _ => simp at ha
  | _, _ :: _ :: _, _, hm, _ => simp at hm
end Mini

/- X04 -/
set_option Elab.async false
set_option linter.all false
set_option maxRecDepth 100000
/-! X04: the order of rows, meets, joins: a modular lattice -/
namespace Mini
def belowB (u : List Int) : List Int → Bool
  | [] => decide (u = [])
  | a :: w => decide (u = a :: w) || decide (u = []) || (if a = 0 then belowB u.tail w else belowB u w)
def B (u v : List Int) : Prop := belowB u v = true
instance {u v : List Int} : Decidable (B u v) := inferInstanceAs (Decidable (_ = _))
theorem B_nil {u : List Int} : B u [] ↔ u = [] := by simp [B, belowB]
theorem B_s {u w : List Int} {a : Int} (ha : a ≠ 0) : B u (a :: w) ↔ u = a :: w ∨ u = [] ∨ B u w := by
  simp [B, belowB, ha, or_assoc]
theorem nil_B : ∀ {v : List Int}, B [] v
  | [] => B_nil.mpr rfl
  | a :: w => by simp [B, belowB]
theorem B_s' {u w : List Int} {a : Int} (ha : a ≠ 0) : B u (a :: w) ↔ u = a :: w ∨ B u w := by
  rw [B_s ha]
  constructor
  · rintro (h | rfl | h)
    · exact .inl h
    · exact .inr nil_B
    · exact .inr h
  · rintro (h | h)
    · exact .inl h
    · exact .inr (.inr h)
theorem B_refl : ∀ {v : List Int}, B v v
  | [] => nil_B
  | a :: w => by simp [B, belowB]
theorem B_0 {u w : List Int} {a : Int} : B (a :: u) (0 :: w) ↔ B u w := by
  have h : B (a :: u) (0 :: w) ↔ (a :: u = 0 :: w) ∨ B u w := by simp [B, belowB]
  rw [h]
  constructor
  · rintro (h | h)
    · injection h with h1 h2; rw [h2]; exact B_refl
    · exact h
  · exact .inr
theorem B_tail : ∀ {w u : List Int} {b : Int}, B (b :: u) w → B u w
  | [], _, _, h => by rw [B_nil] at h; cases h
  | c :: w, u, b, h => by
    by_cases hc : c = 0
    · subst hc
      rw [B_0] at h
      cases u with
      | nil => exact nil_B
      | cons d u => rw [B_0]; exact B_tail h
    · rw [B_s' hc] at h ⊢
      rcases h with h | h
      · injection h with h1 h2; rw [h2]; exact .inr B_refl
      · exact .inr (B_tail h)
theorem B_trans : ∀ {w u v : List Int}, B u v → B v w → B u w
  | [], u, v, h1, h2 => by
    rw [B_nil] at h2; subst h2; exact h1
  | c :: w, u, v, h1, h2 => by
    by_cases hc : c = 0
    · subst hc
      cases u with
      | nil => exact nil_B
      | cons b u =>
        cases v with
        | nil => rw [B_nil] at h1; cases h1
        | cons a v =>
          rw [B_0] at h2 ⊢
          by_cases ha : a = 0
          · subst ha
            rw [B_0] at h1
            exact B_trans h1 h2
          · rw [B_s' ha] at h1
            rcases h1 with h1 | h1
            · injection h1 with e1 e2; rw [e2]; exact h2
            · exact B_tail (B_trans h1 h2)
    · rw [B_s' hc] at h2 ⊢
      rcases h2 with rfl | h2
      · exact (B_s' hc).mp h1
      · exact .inr (B_trans h1 h2)
theorem B_sz : ∀ {v u : List Int}, B u v → u = v ∨ sz u < sz v
  | [], u, h => by rw [B_nil] at h; exact .inl h
  | c :: v, u, h => by
    by_cases hc : c = 0
    · subst hc
      cases u with
      | nil =>
        right
        have := sz_len v
        rw [sz_cons, sz_nil]
        have := letS_pos 0
        omega
      | cons a u =>
        rw [B_0] at h
        have ha := letS_pos a
        have h0 : letS 0 = 2 := rfl
        rcases B_sz h with rfl | h
        · by_cases ha0 : a = 0
          · left; rw [ha0]
          · right
            have : letS a = 1 := by unfold letS; rw [if_neg ha0]
            rw [sz_cons, sz_cons]
            omega
        · right
          rw [sz_cons, sz_cons]
          omega
    · rw [B_s' hc] at h
      have hp := letS_pos c
      rcases h with h | h
      · exact .inl h
      · right
        rw [sz_cons]
        rcases B_sz h with rfl | h <;> omega
theorem B_le {u v : List Int} (h : B u v) : sz u ≤ sz v := by
  rcases B_sz h with rfl | h <;> omega
theorem B_eq {u v : List Int} (h : B u v) (hs : sz v ≤ sz u) : u = v := by
  rcases B_sz h with h | h
  · exact h
  · omega
theorem B_anti {u v : List Int} (h1 : B u v) (h2 : B v u) : u = v := B_eq h1 (B_le h2)
/-! steps and order -/
theorem up_B {h : Int} {u x : List Int} (hx : x ∈ upsU h u) : B u x ∧ B x (0 :: u) := by
  rcases mem_upsU.mp hx with ⟨a, ha, rfl⟩ | ⟨z, hz, rfl⟩
  · exact ⟨(B_s' (by omega)).mpr (.inr B_refl), B_0.mpr B_refl⟩
  · have key : ∀ {r z : List Int}, z ∈ downsU h r → B z r ∧ B r (0 :: z) := by
      intro r
      induction r with
      | nil => intro z hz; simp [downsU] at hz
      | cons a v ih =>
        intro z hz
        by_cases ha : a = 0
        · subst ha
          rw [downsU0] at hz
          rcases mem_upsU.mp hz with ⟨b, hb, rfl⟩ | ⟨y, hy, rfl⟩
          · exact ⟨B_0.mpr B_refl, B_0.mpr ((B_s' (by omega)).mpr (.inr B_refl))⟩
          · have := ih hy
            exact ⟨B_0.mpr this.1, B_0.mpr this.2⟩
        · rw [downsUs ha, List.mem_singleton] at hz
          subst hz
          exact ⟨(B_s' ha).mpr (.inr B_refl), B_0.mpr B_refl⟩
    have := key hz
    exact ⟨this.2, B_0.mpr this.1⟩
theorem down_B {h : Int} : ∀ {r z : List Int}, z ∈ downsU h r → B z r
  | [], _, hz => by simp [downsU] at hz
  | a :: v, z, hz => by
    by_cases ha : a = 0
    · subst ha
      rw [downsU0] at hz
      exact (up_B hz).2
    · rw [downsUs ha, List.mem_singleton] at hz
      subst hz
      exact (B_s' ha).mpr (.inr B_refl)
/-- between a row and one above it there is a step up -/
theorem B_step {h : Int} (h1 : 1 ≤ h) : ∀ {v u : List Int}, Lets h v → B u v → u ≠ v → ∃ z ∈ upsU h u, B z v
  | [], u, _, hb, hne => absurd (B_nil.mp hb) hne
  | c :: v, u, hl, hb, hne => by
    have hl' := Lets.cons.mp hl
    by_cases hc : c = 0
    · subst hc
      cases u with
      | nil => exact ⟨[1], mem_upsU.mpr (.inl ⟨1, by omega, rfl⟩), B_0.mpr nil_B⟩
      | cons a u =>
        rw [B_0] at hb
        by_cases huv : u = v
        · subst huv
          have ha : a ≠ 0 := fun e => hne (by rw [e])
          exact ⟨0 :: u, mem_upsU.mpr (.inr ⟨u, by rw [downsUs ha]; simp, rfl⟩), B_refl⟩
        · by_cases ha : a = 0
          · subst ha
            obtain ⟨z, hz, hzv⟩ := B_step h1 hl'.2 hb huv
            exact ⟨0 :: z, mem_upsU.mpr (.inr ⟨z, by rw [downsU0]; exact hz, rfl⟩), B_0.mpr hzv⟩
          · exact ⟨0 :: u, mem_upsU.mpr (.inr ⟨u, by rw [downsUs ha]; simp, rfl⟩), B_0.mpr hb⟩
    · rw [B_s' hc] at hb
      rcases hb with hb | hb
      · exact absurd hb hne
      · by_cases huv : u = v
        · subst huv
          exact ⟨c :: u, mem_upsU.mpr (.inl ⟨c, by omega, rfl⟩), B_refl⟩
        · obtain ⟨z, hz, hzv⟩ := B_step h1 hl'.2 hb huv
          exact ⟨z, hz, (B_s' hc).mpr (.inr hzv)⟩
/-! joins -/
def joinL : List Int → List Int → List Int
  | [], v => v
  | a :: x, v => if B (a :: x) v then v else if B v (a :: x) then a :: x else 0 :: joinL x v.tail
theorem joinL_of {u v : List Int} (h : B u v) : joinL u v = v := by
  cases u with
  | nil => rfl
  | cons a x => unfold joinL; rw [if_pos h]
theorem joinL_of' {u v : List Int} (h1 : ¬ B u v) (h : B v u) : joinL u v = u := by
  cases u with
  | nil => exact absurd nil_B h1
  | cons a x => unfold joinL; rw [if_neg h1, if_pos h]
theorem joinL_0 {u v : List Int} (h1 : ¬ B u v) (h2 : ¬ B v u) : joinL u v = 0 :: joinL u.tail v.tail := by
  cases u with
  | nil => exact absurd nil_B h1
  | cons a x => conv => lhs; unfold joinL
                rw [if_neg h1, if_neg h2]; rfl
theorem join_up : ∀ {u v : List Int}, B u (joinL u v) ∧ B v (joinL u v)
  | [], v => ⟨nil_B, B_refl⟩
  | a :: x, v => by
    by_cases h1 : B (a :: x) v
    · rw [joinL_of h1]; exact ⟨h1, B_refl⟩
    · by_cases h2 : B v (a :: x)
      · rw [joinL_of' h1 h2]; exact ⟨B_refl, h2⟩
      · rw [joinL_0 h1 h2]
        have := join_up (u := x) (v := v.tail)
        refine ⟨B_0.mpr this.1, ?_⟩
        cases v with
        | nil => exact nil_B
        | cons b y => exact B_0.mpr this.2
theorem join_least : ∀ {w u v : List Int}, B u w → B v w → B (joinL u v) w
  | w, u, v, hu, hv => by
    by_cases h1 : B u v
    · rw [joinL_of h1]; exact hv
    · by_cases h2 : B v u
      · rw [joinL_of' h1 h2]; exact hu
      · match w, hu, hv with
        | [], hu, _ => rw [B_nil] at hu; subst hu; exact absurd nil_B h1
        | c :: w, hu, hv =>
          by_cases hc : c = 0
          · subst hc
            rw [joinL_0 h1 h2]
            match u, v, h1, h2, hu, hv with
            | [], _, h1, _, _, _ => exact absurd nil_B h1
            | _ :: _, [], _, h2, _, _ => exact absurd nil_B h2
            | a :: x, b :: y, _, _, hu, hv =>
              rw [B_0] at hu hv ⊢
              exact join_least hu hv
          · rw [B_s' hc] at hu hv
            rcases hu with rfl | hu
            · rcases hv with rfl | hv
              · exact absurd B_refl h1
              · exact absurd ((B_s' hc).mpr (.inr hv)) h2
            · rcases hv with rfl | hv
              · exact absurd ((B_s' hc).mpr (.inr hu)) h1
              · exact (B_s' hc).mpr (.inr (join_least hu hv))
termination_by w => w.length
decreasing_by all_goals (simp_wf <;> first | omega | (simp_all; done) | (simp_all; omega))
theorem join_comm {u v : List Int} : joinL u v = joinL v u := B_anti (join_least join_up.2 join_up.1) (join_least join_up.2 join_up.1)
/-! meets -/
def meetL : List Int → List Int → List Int
  | [], _ => []
  | _ :: _, [] => []
  | a :: x, b :: y => if B (a :: x) (b :: y) then a :: x else if B (b :: y) (a :: x) then b :: y else if a ≠ 0 then meetL x (b :: y) else if b ≠ 0 then meetL (a :: x) y else 0 :: meetL x y
termination_by u v => u.length + v.length
theorem meetL_of {u v : List Int} (h : B u v) : meetL u v = u := by
  match u, v, h with
  | [], v, _ => unfold meetL; rfl
  | a :: x, [], h => rw [B_nil] at h; cases h
  | a :: x, b :: y, h => unfold meetL; rw [if_pos h]
theorem meetL_of' {u v : List Int} (h1 : ¬ B u v) (h : B v u) : meetL u v = v := by
  match u, v, h1, h with
  | [], v, h1, _ => exact absurd nil_B h1
  | a :: x, [], _, _ => unfold meetL; rfl
  | a :: x, b :: y, h1, h => unfold meetL; rw [if_neg h1, if_pos h]
theorem meetL_a {a b : Int} {x y : List Int} (h1 : ¬ B (a :: x) (b :: y)) (h2 : ¬ B (b :: y) (a :: x)) (ha : a ≠ 0) : meetL (a :: x) (b :: y) = meetL x (b :: y) := by
  conv => lhs; unfold meetL
  rw [if_neg h1, if_neg h2, if_pos ha]
theorem meetL_b {b : Int} {x y : List Int} (h1 : ¬ B (0 :: x) (b :: y)) (h2 : ¬ B (b :: y) (0 :: x)) (hb : b ≠ 0) : meetL (0 :: x) (b :: y) = meetL (0 :: x) y := by
  conv => lhs; unfold meetL
  rw [if_neg h1, if_neg h2, if_neg (by simp), if_pos hb]
theorem meetL_0 {x y : List Int} (h1 : ¬ B (0 :: x) (0 :: y)) (h2 : ¬ B (0 :: y) (0 :: x)) : meetL (0 :: x) (0 :: y) = 0 :: meetL x y := by
  conv => lhs; unfold meetL
  rw [if_neg h1, if_neg h2, if_neg (by simp), if_neg (by simp)]
/-- the meet is below both, above all that is below both -/
theorem meet_is : ∀ {u v w : List Int}, B w (meetL u v) ↔ B w u ∧ B w v
  | u, v, w => by
    by_cases h1 : B u v
    · rw [meetL_of h1]
      exact ⟨fun h => ⟨h, B_trans h h1⟩, fun h => h.1⟩
    · by_cases h2 : B v u
      · rw [meetL_of' h1 h2]
        exact ⟨fun h => ⟨B_trans h h2, h⟩, fun h => h.2⟩
      · match u, v, h1, h2 with
        | [], _, h1, _ => exact absurd nil_B h1
        | _ :: _, [], _, h2 => exact absurd nil_B h2
        | a :: x, b :: y, h1, h2 =>
          by_cases ha : a = 0
          · subst ha
            by_cases hb : b = 0
            · subst hb
              rw [meetL_0 h1 h2]
              cases w with
              | nil => exact ⟨fun _ => ⟨nil_B, nil_B⟩, fun _ => nil_B⟩
              | cons c w => rw [B_0, B_0, B_0]; exact meet_is
            · rw [meetL_b h1 h2 hb, meet_is (u := 0 :: x) (v := y), B_s' (w := y) hb]
              constructor
              · rintro ⟨p, q⟩; exact ⟨p, .inr q⟩
              · rintro ⟨p, rfl | q⟩
                · exact absurd p h2
                · exact ⟨p, q⟩
          · rw [meetL_a h1 h2 ha, meet_is (u := x) (v := b :: y), B_s' (w := x) ha]
            constructor
            · rintro ⟨p, q⟩; exact ⟨.inr p, q⟩
            · rintro ⟨rfl | p, q⟩
              · exact absurd q h1
              · exact ⟨p, q⟩
termination_by u v => u.length + v.length
decreasing_by all_goals (simp_wf <;> first | omega | (simp_all; done) | (simp_all; omega))
theorem meet_low {u v : List Int} : B (meetL u v) u ∧ B (meetL u v) v := meet_is.mp B_refl
theorem meet_comm {u v : List Int} : meetL u v = meetL v u := B_anti (meet_is.mpr ⟨meet_low.2, meet_low.1⟩) (meet_is.mpr ⟨meet_low.2, meet_low.1⟩)
theorem meet_eq {u v m : List Int} (h : ∀ w, B w m ↔ B w u ∧ B w v) : meetL u v = m := B_anti ((h _).mpr meet_low) (meet_is.mpr ((h _).mp B_refl))
end Mini

/- N02 -/
set_option Elab.async false
set_option linter.all false
set_option maxRecDepth 100000
set_option maxHeartbeats 0
namespace Mini
open PySem
def f_leading_b1 : List S := [.ifs (.cmp .ne (.slot 2) (.lit (.int 0))) [.brk] [],
    .set 1 (.op .add (.slot 1) (.lit (.int 1)))]

def f_leading_body : List S := [.set 1 (.lit (.int 0)),
    .forS (.sl 2) (.slot 0) f_leading_b1,
    .ret (.slot 1)]

def f_leading : Fn where
  name := "leading"
  pars := ["row"]
  dfl := []
  ino := [false]
  N := ["row", "found", "letter"]
  body := f_leading_body

class H_f_leading (P : Prog) : Prop where
  findf_leading : P.find "leading" = some f_leading
theorem inof_leading {P : Prog} [h : H_f_leading P] {c : Str → List D → CRes} : (P.ifc c).ino "leading" = [false] := ifc_ino h.findf_leading
theorem parsf_leading {P : Prog} [h : H_f_leading P] {c : Str → List D → CRes} : (P.ifc c).pars "leading" = (["row"] : List Str) := ifc_pars h.findf_leading
theorem dflf_leading {P : Prog} [h : H_f_leading P] {c : Str → List D → CRes} : (P.ifc c).dfl "leading" = ([] : List D) := ifc_dfl h.findf_leading
theorem runf_leading {P : Prog} [h : H_f_leading P] {n : Nat} {a0 : D} : P.call (n + 1) "leading" [a0] = finF [false] (denB (P.ifc (P.call n)) f_leading_body [.val a0, .no, .no]) := call_run h.findf_leading rfl

def f_ups_by_body : List S := [.set 2 (.call "leading" [.slot 1] [] []),
    .set 3 (.comp2 [4, 5] [5] (.sl 4) (.range [.op .add (.slot 2) (.lit (.int 1))]) [] (.sl 5) (.range [.lit (.int 1), .op .add (.slot 0) (.lit (.int 1))]) [] (.tup [true, false, true] [.slice (.slot 1) (.lit .non) (.slot 4), .slot 5, .slice (.slot 1) (.slot 4) (.lit .non)])),
    .ifs (.cmp .lt (.slot 2) (.bi .len [.slot 1])) [.expr (.app 3 (.tup [true, false, true] [.slice (.slot 1) (.lit .non) (.slot 2), .lit (.int 0), .slice (.slot 1) (.op .add (.slot 2) (.lit (.int 1))) (.lit .non)]))] [],
    .ret (.bi .tuple [.bi .sorted [.slot 3]])]

def f_ups_by : Fn where
  name := "ups_by"
  pars := ["hues", "row"]
  dfl := []
  ino := [false, false]
  N := ["hues", "row", "pairs", "found", "at", "hue"]
  body := f_ups_by_body

class H_f_ups_by (P : Prog) : Prop extends H_f_leading P where
  findf_ups_by : P.find "ups_by" = some f_ups_by
theorem inof_ups_by {P : Prog} [h : H_f_ups_by P] {c : Str → List D → CRes} : (P.ifc c).ino "ups_by" = [false, false] := ifc_ino h.findf_ups_by
theorem parsf_ups_by {P : Prog} [h : H_f_ups_by P] {c : Str → List D → CRes} : (P.ifc c).pars "ups_by" = (["hues", "row"] : List Str) := ifc_pars h.findf_ups_by
theorem dflf_ups_by {P : Prog} [h : H_f_ups_by P] {c : Str → List D → CRes} : (P.ifc c).dfl "ups_by" = ([] : List D) := ifc_dfl h.findf_ups_by
theorem runf_ups_by {P : Prog} [h : H_f_ups_by P] {n : Nat} {a0 a1 : D} : P.call (n + 1) "ups_by" [a0, a1] = finF [false, false] (denB (P.ifc (P.call n)) f_ups_by_body [.val a0, .val a1, .no, .no, .no, .no]) := call_run h.findf_ups_by rfl

def f_downs_by_body : List S := [.set 2 (.call "leading" [.slot 1] [] []),
    .set 3 (.comp2 [4, 5] [5] (.sl 4) (.range [.slot 2]) [] (.sl 5) (.range [.lit (.int 1), .op .add (.slot 0) (.lit (.int 1))]) [] (.tup [true, false, true] [.slice (.slot 1) (.lit .non) (.slot 4), .slot 5, .slice (.slot 1) (.op .add (.slot 4) (.lit (.int 1))) (.lit .non)])),
    .ifs (.cmp .lt (.slot 2) (.bi .len [.slot 1])) [.expr (.app 3 (.tup [true, true] [.slice (.slot 1) (.lit .non) (.slot 2), .slice (.slot 1) (.op .add (.slot 2) (.lit (.int 1))) (.lit .non)]))] [],
    .ret (.bi .tuple [.bi .sorted [.slot 3]])]

def f_downs_by : Fn where
  name := "downs_by"
  pars := ["hues", "row"]
  dfl := []
  ino := [false, false]
  N := ["hues", "row", "pairs", "found", "at", "hue"]
  body := f_downs_by_body

class H_f_downs_by (P : Prog) : Prop extends H_f_leading P where
  findf_downs_by : P.find "downs_by" = some f_downs_by
theorem inof_downs_by {P : Prog} [h : H_f_downs_by P] {c : Str → List D → CRes} : (P.ifc c).ino "downs_by" = [false, false] := ifc_ino h.findf_downs_by
theorem parsf_downs_by {P : Prog} [h : H_f_downs_by P] {c : Str → List D → CRes} : (P.ifc c).pars "downs_by" = (["hues", "row"] : List Str) := ifc_pars h.findf_downs_by
theorem dflf_downs_by {P : Prog} [h : H_f_downs_by P] {c : Str → List D → CRes} : (P.ifc c).dfl "downs_by" = ([] : List D) := ifc_dfl h.findf_downs_by
theorem runf_downs_by {P : Prog} [h : H_f_downs_by P] {n : Nat} {a0 a1 : D} : P.call (n + 1) "downs_by" [a0, a1] = finF [false, false] (denB (P.ifc (P.call n)) f_downs_by_body [.val a0, .val a1, .no, .no, .no, .no]) := call_run h.findf_downs_by rfl

def f_downs_body : List S := [.expr (.call "need_hues" [.slot 0] [] []),
    .expr (.call "need_row" [.slot 0, .slot 1] [] []),
    .ret (.call "downs_by" [.slot 0, .slot 1] [] [])]

def f_downs : Fn where
  name := "downs"
  pars := ["hues", "row"]
  dfl := []
  ino := [false, false]
  N := ["hues", "row"]
  body := f_downs_body

class H_f_downs (P : Prog) : Prop extends H_f_need_hues P, H_f_need_row P, H_f_downs_by P where
  findf_downs : P.find "downs" = some f_downs
theorem inof_downs {P : Prog} [h : H_f_downs P] {c : Str → List D → CRes} : (P.ifc c).ino "downs" = [false, false] := ifc_ino h.findf_downs
theorem parsf_downs {P : Prog} [h : H_f_downs P] {c : Str → List D → CRes} : (P.ifc c).pars "downs" = (["hues", "row"] : List Str) := ifc_pars h.findf_downs
theorem dflf_downs {P : Prog} [h : H_f_downs P] {c : Str → List D → CRes} : (P.ifc c).dfl "downs" = ([] : List D) := ifc_dfl h.findf_downs
theorem runf_downs {P : Prog} [h : H_f_downs P] {n : Nat} {a0 a1 : D} : P.call (n + 1) "downs" [a0, a1] = finF [false, false] (denB (P.ifc (P.call n)) f_downs_body [.val a0, .val a1]) := call_run h.findf_downs rfl

def f_ups_body : List S := [.expr (.call "need_hues" [.slot 0] [] []),
    .expr (.call "need_row" [.slot 0, .slot 1] [] []),
    .ret (.call "ups_by" [.slot 0, .slot 1] [] [])]

def f_ups : Fn where
  name := "ups"
  pars := ["hues", "row"]
  dfl := []
  ino := [false, false]
  N := ["hues", "row"]
  body := f_ups_body

class H_f_ups (P : Prog) : Prop extends H_f_need_hues P, H_f_need_row P, H_f_ups_by P where
  findf_ups : P.find "ups" = some f_ups
theorem inof_ups {P : Prog} [h : H_f_ups P] {c : Str → List D → CRes} : (P.ifc c).ino "ups" = [false, false] := ifc_ino h.findf_ups
theorem parsf_ups {P : Prog} [h : H_f_ups P] {c : Str → List D → CRes} : (P.ifc c).pars "ups" = (["hues", "row"] : List Str) := ifc_pars h.findf_ups
theorem dflf_ups {P : Prog} [h : H_f_ups P] {c : Str → List D → CRes} : (P.ifc c).dfl "ups" = ([] : List D) := ifc_dfl h.findf_ups
theorem runf_ups {P : Prog} [h : H_f_ups P] {n : Nat} {a0 a1 : D} : P.call (n + 1) "ups" [a0, a1] = finF [false, false] (denB (P.ifc (P.call n)) f_ups_body [.val a0, .val a1]) := call_run h.findf_ups rfl

def f_law_ups_b1 : List S := [.set 2 (.op .add (.slot 2) (.comp [5] (.sl 5) (.range [.lit (.int 1), .op .add (.slot 0) (.lit (.int 1))]) [] (.op .add (.op .add (.op .mul (.tup [false] [.lit (.int 0)]) (.slot 4)) (.tup [false] [.slot 5])) (.slot 3)))),
    .ifs (.cmp .eq (.slot 3) (.tup [] [])) [.ret (.bi .sorted [.slot 2])] [],
    .ifs (.cmp .ne (.idx (.slot 3) (.lit (.int 0))) (.lit (.int 0))) [.ret (.bi .sorted [.op .add (.slot 2) (.lst [false] [.op .add (.op .mul (.tup [false] [.lit (.int 0)]) (.op .add (.slot 4) (.lit (.int 1)))) (.slice (.slot 3) (.lit (.int 1)) (.lit .non))])])] [],
    .set 3 (.slice (.slot 3) (.lit (.int 1)) (.lit .non))]

def f_law_ups_body : List S := [.setP [2, 3] [.lst [] [], .slot 1],
    .forS (.sl 4) (.range [.op .add (.bi .len [.slot 1]) (.lit (.int 1))]) f_law_ups_b1,
    .ret (.bi .sorted [.slot 2])]

def f_law_ups : Fn where
  name := "_law_ups"
  pars := ["hues", "row"]
  dfl := []
  ino := [false, false]
  N := ["hues", "row", "found", "here", "lap", "hue"]
  body := f_law_ups_body

class H_f_law_ups (P : Prog) : Prop where
  findf_law_ups : P.find "_law_ups" = some f_law_ups
theorem inof_law_ups {P : Prog} [h : H_f_law_ups P] {c : Str → List D → CRes} : (P.ifc c).ino "_law_ups" = [false, false] := ifc_ino h.findf_law_ups
theorem parsf_law_ups {P : Prog} [h : H_f_law_ups P] {c : Str → List D → CRes} : (P.ifc c).pars "_law_ups" = (["hues", "row"] : List Str) := ifc_pars h.findf_law_ups
theorem dflf_law_ups {P : Prog} [h : H_f_law_ups P] {c : Str → List D → CRes} : (P.ifc c).dfl "_law_ups" = ([] : List D) := ifc_dfl h.findf_law_ups
theorem runf_law_ups {P : Prog} [h : H_f_law_ups P] {n : Nat} {a0 a1 : D} : P.call (n + 1) "_law_ups" [a0, a1] = finF [false, false] (denB (P.ifc (P.call n)) f_law_ups_body [.val a0, .val a1, .no, .no, .no, .no]) := call_run h.findf_law_ups rfl

def f_law_downs_body : List S := [.ifs (.cmp .eq (.slot 1) (.tup [] [])) [.ret (.lst [] [])] [],
    .ret (.ite (.cmp .ne (.idx (.slot 1) (.lit (.int 0))) (.lit (.int 0))) (.lst [false] [.slice (.slot 1) (.lit (.int 1)) (.lit .non)]) (.call "_law_ups" [.slot 0, .slice (.slot 1) (.lit (.int 1)) (.lit .non)] [] []))]

def f_law_downs : Fn where
  name := "_law_downs"
  pars := ["hues", "row"]
  dfl := []
  ino := [false, false]
  N := ["hues", "row"]
  body := f_law_downs_body

class H_f_law_downs (P : Prog) : Prop extends H_f_law_ups P where
  findf_law_downs : P.find "_law_downs" = some f_law_downs
theorem inof_law_downs {P : Prog} [h : H_f_law_downs P] {c : Str → List D → CRes} : (P.ifc c).ino "_law_downs" = [false, false] := ifc_ino h.findf_law_downs
theorem parsf_law_downs {P : Prog} [h : H_f_law_downs P] {c : Str → List D → CRes} : (P.ifc c).pars "_law_downs" = (["hues", "row"] : List Str) := ifc_pars h.findf_law_downs
theorem dflf_law_downs {P : Prog} [h : H_f_law_downs P] {c : Str → List D → CRes} : (P.ifc c).dfl "_law_downs" = ([] : List D) := ifc_dfl h.findf_law_downs
theorem runf_law_downs {P : Prog} [h : H_f_law_downs P] {n : Nat} {a0 a1 : D} : P.call (n + 1) "_law_downs" [a0, a1] = finF [false, false] (denB (P.ifc (P.call n)) f_law_downs_body [.val a0, .val a1]) := call_run h.findf_law_downs rfl

end Mini

/- L02 -/
set_option Elab.async false
set_option linter.all false
set_option maxRecDepth 100000
set_option maxHeartbeats 4000000
namespace Mini
open PySem
variable {P : Prog} {n : Nat}
theorem range_sing {h : Int} : (List.range (h + 1 - 1).toNat).map (offD 1) = (sing h).map D.int := by
  unfold sing
  rw [List.map_map, show h + 1 - 1 = h by omega]
  rfl
theorem lead_loop {F : Ifc} {v0 : Slot} : ∀ (l : List Int) (k : Int) (s : Slot), okS s → ∃ s', loop (turnS F (.sl 2) f_leading_b1) (l.map D.int) [v0, .val (.int k), s] = .nx [v0, .val (.int (k + leadN l)), s'] ∨ loop (turnS F (.sl 2) f_leading_b1) (l.map D.int) [v0, .val (.int k), s] = .bk [v0, .val (.int (k + leadN l)), s']
  | [], k, s, _ => ⟨s, .inl (by simp [leadN, loop_nil])⟩
  | a :: l, k, s, hs => by
    rw [List.map_cons, loop_cons]
    by_cases ha : a = 0
    · have e : turnS F (.sl 2) f_leading_b1 (.int a) [v0, .val (.int k), s] = .nx [v0, .val (.int (k + 1)), .val (.int a)] := by
        rcases hs with rfl | ⟨v, rfl⟩ <;> simp! [f_leading_body, f_leading_b1, ha]
      obtain ⟨s', q⟩ := lead_loop (F := F) (v0 := v0) l (k + 1) (.val (.int a)) okS_val
      have e2 : k + (leadN (a :: l) : Int) = k + 1 + leadN l := by simp [leadN, ha]; omega
      rw [e, loopK_nx, e2]
      exact ⟨s', q⟩
    · have e : turnS F (.sl 2) f_leading_b1 (.int a) [v0, .val (.int k), s] = .bk [v0, .val (.int k), .val (.int a)] := by
        rcases hs with rfl | ⟨v, rfl⟩ <;> simp! [f_leading_body, f_leading_b1, ha]
      rw [e, loopK_bk]
      exact ⟨.val (.int a), .inr (by simp [leadN, ha])⟩
theorem leading_s [H_f_leading P] {r : List Int} : P.call (n + 1) "leading" [row r] = .ok (.val (.int (leadN r))) [] := by
  rw [runf_leading]
  simp! [f_leading_body]
  obtain ⟨s', q | q⟩ := lead_loop (F := P.ifc (P.call n)) (v0 := .val (row r)) r 0 .no okS_no <;> rw [q] <;> simp! [f_leading_body, Int.zero_add]
theorem ups_by_s [H_f_ups_by P] {h : Int} {r : List Int} (h1 : 1 ≤ h) (h3 : h ≤ 3) (hr : r.length ≤ 1000) : P.call (n + 2) "ups_by" [.int h, row r] = .ok (.val (tupE row (ups h r))) [] := by
  have e1 := leading_s (P := P) (n := n) (r := r)
  have hle := leadN_le r
  have hb := upsU_bound h3 hr
  have hm := upsP_eq (h := h) r
  rw [runf_ups_by]
  simp! [f_ups_by_body, inof_leading, parsf_leading, dflf_leading, e1]
  rw [kComp2_ok (e' := row) (fun at' => (sing h).map fun u => r.take at' ++ u :: r.drop at') (by rfl) (fun x hx => by
    have hx := List.mem_range.mp hx
    simp! [f_ups_by_body, inof_leading, parsf_leading, dflf_leading, range_sing]
    rw [kIn_map (e' := row) (fun u => r.take x ++ u :: r.drop x) (by rfl) (fun u hu => by simp! [f_ups_by_body, inof_leading, parsf_leading, dflf_leading])]
    simp! [f_ups_by_body, inof_leading, parsf_leading, dflf_leading]) (by
      have := congrArg List.length hm
      rw [List.length_append] at this
      omega)]
  by_cases hp : leadN r < r.length
  · rw [if_pos hp] at hm
    have hp' : (leadN r : Int) < r.length := by omega
    have hl := congrArg List.length hm
    rw [List.length_append] at hl
    simp! [f_ups_by_body, inof_leading, parsf_leading, dflf_leading, hp', hm, sorted_tups (h := .inr fun a => upsU_ne), ups]
  · rw [if_neg hp, List.append_nil] at hm
    have hp' : ¬ (leadN r : Int) < r.length := by omega
    simp! [f_ups_by_body, inof_leading, parsf_leading, dflf_leading, hp', hm, sorted_tups (h := .inr fun a => upsU_ne), ups]
theorem downs_by_s [H_f_downs_by P] {h : Int} {r : List Int} (h1 : 1 ≤ h) (h3 : h ≤ 3) (hr : r.length ≤ 1000) : P.call (n + 2) "downs_by" [.int h, row r] = .ok (.val (tupE row (downs h r))) [] := by
  have e1 := leading_s (P := P) (n := n) (r := r)
  have hle := leadN_le r
  have hb := downsU_bound h3 hr
  have hm := downsP_eq (h := h) r
  rw [runf_downs_by]
  simp! [f_downs_by_body, inof_leading, parsf_leading, dflf_leading, e1]
  rw [kComp2_ok (e' := row) (fun at' => (sing h).map fun u => r.take at' ++ u :: r.drop (at' + 1)) (by rfl) (fun x hx => by
    have hx := List.mem_range.mp hx
    simp! [f_downs_by_body, inof_leading, parsf_leading, dflf_leading, range_sing]
    rw [kIn_map (e' := row) (fun u => r.take x ++ u :: r.drop (x + 1)) (by rfl) (fun u hu => by simp! [f_downs_by_body, inof_leading, parsf_leading, dflf_leading])]
    simp! [f_downs_by_body, inof_leading, parsf_leading, dflf_leading]) (by
      have := congrArg List.length hm
      rw [List.length_append] at this
      omega)]
  by_cases hp : leadN r < r.length
  · rw [if_pos hp] at hm
    have hp' : (leadN r : Int) < r.length := by omega
    have hl := congrArg List.length hm
    rw [List.length_append] at hl
    simp! [f_downs_by_body, inof_leading, parsf_leading, dflf_leading, hp', hm, sorted_tups (h := downsU_ne _), downs]
  · rw [if_neg hp, List.append_nil] at hm
    have hp' : ¬ (leadN r : Int) < r.length := by omega
    simp! [f_downs_by_body, inof_leading, parsf_leading, dflf_leading, hp', hm, sorted_tups (h := downsU_ne _), downs]
end Mini

/- L02b -/
set_option Elab.async false
set_option linter.all false
set_option maxRecDepth 100000
set_option maxHeartbeats 4000000
namespace Mini
open PySem
variable {P : Prog} {n : Nat}
theorem ups_s [H_f_ups P] {h : Int} {r : List Int} (h1 : 1 ≤ h) (h3 : h ≤ 3) (hr : RowOk h r) : P.call (n + 4) "ups" [.int h, row r] = .ok (.val (tupE row (ups h r))) [] := by
  have e1 := need_hues_ok (P := P) (n := n) h1 h3
  have e2 := need_row_ok (P := P) (n := n) (w := .str "row") hr
  have e3 := ups_by_s (P := P) (n := n + 1) (r := r) h1 h3 (by have := hr.len; omega)
  rw [runf_ups]
  simp! [f_ups_body, inof_need_hues, parsf_need_hues, dflf_need_hues, inof_need_row, parsf_need_row, dflf_need_row, inof_ups_by, parsf_ups_by, dflf_ups_by, arr_need_row_2, e1, e2, e3, arr_need_row_2]
theorem downs_s [H_f_downs P] {h : Int} {r : List Int} (h1 : 1 ≤ h) (h3 : h ≤ 3) (hr : RowOk h r) : P.call (n + 4) "downs" [.int h, row r] = .ok (.val (tupE row (downs h r))) [] := by
  have e1 := need_hues_ok (P := P) (n := n) h1 h3
  have e2 := need_row_ok (P := P) (n := n) (w := .str "row") hr
  have e3 := downs_by_s (P := P) (n := n + 1) (r := r) h1 h3 (by have := hr.len; omega)
  rw [runf_downs]
  simp! [f_downs_body, inof_need_hues, parsf_need_hues, dflf_need_hues, inof_need_row, parsf_need_row, dflf_need_row, inof_downs_by, parsf_downs_by, dflf_downs_by, arr_need_row_2, e1, e2, e3, arr_need_row_2]
theorem ups_badH [H_f_ups P] {x d : D} (hb : x.base = true) (h : isHuesD x = false) : P.call (n + 4) "ups" [x, d] = .ex "BadHues" [] [] := by
  have e1 := need_hues_bad (P := P) (n := n) hb h
  rw [runf_ups]
  simp! [f_ups_body, inof_need_hues, parsf_need_hues, dflf_need_hues, inof_need_row, parsf_need_row, dflf_need_row, inof_ups_by, parsf_ups_by, dflf_ups_by, arr_need_row_2, e1]
theorem downs_badH [H_f_downs P] {x d : D} (hb : x.base = true) (h : isHuesD x = false) : P.call (n + 4) "downs" [x, d] = .ex "BadHues" [] [] := by
  have e1 := need_hues_bad (P := P) (n := n) hb h
  rw [runf_downs]
  simp! [f_downs_body, inof_need_hues, parsf_need_hues, dflf_need_hues, inof_need_row, parsf_need_row, dflf_need_row, inof_downs_by, parsf_downs_by, dflf_downs_by, arr_need_row_2, e1]
theorem ups_badR [H_f_ups P] {h : Int} (h1 : 1 ≤ h) (h2 : h ≤ 3) {d : D} (hd : look2 d = true) (hr : isRowD h d = false) : P.call (n + 4) "ups" [.int h, d] = .ex "BadRow" [] [] := by
  have e1 := need_hues_ok (P := P) (n := n) h1 h2
  have e2 := need_row_bad (P := P) (n := n) hd hr
  rw [runf_ups]
  simp! [f_ups_body, inof_need_hues, parsf_need_hues, dflf_need_hues, inof_need_row, parsf_need_row, dflf_need_row, inof_ups_by, parsf_ups_by, dflf_ups_by, arr_need_row_2, e1, e2, arr_need_row_2]
theorem downs_badR [H_f_downs P] {h : Int} (h1 : 1 ≤ h) (h2 : h ≤ 3) {d : D} (hd : look2 d = true) (hr : isRowD h d = false) : P.call (n + 4) "downs" [.int h, d] = .ex "BadRow" [] [] := by
  have e1 := need_hues_ok (P := P) (n := n) h1 h2
  have e2 := need_row_bad (P := P) (n := n) hd hr
  rw [runf_downs]
  simp! [f_downs_body, inof_need_hues, parsf_need_hues, dflf_need_hues, inof_need_row, parsf_need_row, dflf_need_row, inof_downs_by, parsf_downs_by, dflf_downs_by, arr_need_row_2, e1, e2, arr_need_row_2]
/-- the law's own steps up: letter by letter -/
theorem law_ups_loop {F : Ifc} {h : Int} {r : List Int} (h1 : 1 ≤ h) (h3 : h ≤ 3) : ∀ (v : List Int) (k m : Nat) (acc : List (List Int)) (s4 : Slot), v.length + 1 ≤ m → k + v.length ≤ 900 → acc.length + (upsU h v).length ≤ 20000 → (∀ a ∈ acc, a ≠ []) → okS s4 →
    rtP 6 (loop (turnS F (.sl 4) f_law_ups_b1) ((List.range' k m).map natD) [.val (.int h), .val (row r), .own (.lst (acc.map row)), .val (row v), s4, .no]) (.own (.lst ((srt (acc ++ (upsU h v).map (List.replicate k 0 ++ ·))).map row)))
  | v, k, 0, _, _, hm, _, _, _, _ => absurd hm (by omega)
  | [], k, m + 1, acc, s4, hm, hk, hl, hn, hs => by
    rw [List.range'_succ, List.map_cons, loop_cons]
    have hne : ∀ a ∈ acc ++ (sing h).map (fun u => List.replicate k 0 ++ [u]), a ≠ [] := by
      intro a ha
      rcases List.mem_append.mp ha with ha | ha
      · exact hn a ha
      · obtain ⟨u, _, rfl⟩ := List.mem_map.mp ha
        simp
    have hu : upsU h [] = (sing h).map (fun u => [u]) := by simp [upsU, downsU]
    have hb : acc.length + (sing h).length ≤ 20000 := by
      rw [hu, List.length_map] at hl
      exact hl
    refine rtP_loop ?_
    rw [hu, List.map_map]
    rcases hs with rfl | ⟨_, rfl⟩
    all_goals
      simp! [f_law_ups_body, f_law_ups_b1, range_sing]
      rw [kComp_map (e' := row) (fun u => List.replicate k 0 ++ [u]) (by rfl) (fun u hu => by simp! [f_law_ups_body]) (by omega)]
      simp! [f_law_ups_body, sorted_tups (h := .inr hne), List.length_nil]
      exact ⟨rfl, rfl⟩
  | a :: v, k, m + 1, acc, s4, hm, hk, hl, hn, hs => by
    rw [List.range'_succ, List.map_cons, loop_cons]
    have hlen : v.length + 1 ≤ m := by simpa using hm
    have hk' : k + 1 + v.length ≤ 900 := by simp at hk; omega
    by_cases ha : a = 0
    · subst ha
      have hu : upsU h (0 :: v) = (sing h).map (fun u => u :: 0 :: v) ++ (upsU h v).map (0 :: ·) := by
        show (sing h).map (· :: 0 :: v) ++ (downsU h (0 :: v)).map (0 :: ·) = _
        rw [downsU0]
      have hb : acc.length + ((sing h).length + (upsU h v).length) ≤ 20000 := by
        rw [hu, List.length_append, List.length_map, List.length_map] at hl
        exact hl
      have e : turnS F (.sl 4) f_law_ups_b1 (natD k) [.val (.int h), .val (row r), .own (.lst (acc.map row)), .val (row (0 :: v)), s4, .no] = .nx [.val (.int h), .val (row r), .own (.lst ((acc ++ (sing h).map (fun u => List.replicate k 0 ++ u :: 0 :: v)).map row)), .val (row v), .val (.int k), .no] := by
        rcases hs with rfl | ⟨_, rfl⟩
        all_goals
          simp! [f_law_ups_body, f_law_ups_b1, range_sing]
          rw [kComp_map (e' := row) (fun u => List.replicate k 0 ++ u :: 0 :: v) (by rfl) (fun u hu => by simp! [f_law_ups_body]) (by omega)]
          simp! [f_law_ups_body, reduceCtorEq, idx_cons0, List.drop_succ_cons, List.drop_zero, Int.toNat_one]
      rw [e, loopK_nx]
      have ih := law_ups_loop (F := F) (r := r) h1 h3 v (k + 1) m (acc ++ (sing h).map (fun u => List.replicate k 0 ++ u :: 0 :: v)) (.val (.int k)) hlen hk' (by rw [List.length_append, List.length_map]; omega) (by
        intro x hx
        rcases List.mem_append.mp hx with hx | hx
        · exact hn x hx
        · obtain ⟨u, _, rfl⟩ := List.mem_map.mp hx
          simp) okS_val
      have e2 : acc ++ (sing h).map (fun u => List.replicate k 0 ++ u :: 0 :: v) ++ (upsU h v).map (List.replicate (k + 1) 0 ++ ·) = acc ++ (upsU h (0 :: v)).map (List.replicate k 0 ++ ·) := by
        rw [hu, List.append_assoc, List.map_append, List.map_map, List.map_map]
        congr 3
        funext x
        simp [List.replicate_succ']
      rw [e2] at ih
      exact ih
    · have hu : upsU h (a :: v) = (sing h).map (fun u => u :: a :: v) ++ [0 :: v] := by
        show (sing h).map (· :: a :: v) ++ (downsU h (a :: v)).map (0 :: ·) = _
        rw [downsUs ha]
        rfl
      have hb : acc.length + ((sing h).length + 1) ≤ 20000 := by
        rw [hu, List.length_append, List.length_map] at hl
        exact hl
      have hne : ∀ x ∈ acc ++ ((sing h).map (fun u => List.replicate k 0 ++ u :: a :: v) ++ [List.replicate (k + 1) 0 ++ v]), x ≠ [] := by
        intro x hx
        simp only [List.mem_append, List.mem_map, List.mem_singleton] at hx
        rcases hx with hx | ⟨u, _, rfl⟩ | rfl
        · exact hn x hx
        · simp
        · simp [List.replicate_succ]
      have e2 : acc ++ (upsU h (a :: v)).map (List.replicate k 0 ++ ·) = acc ++ ((sing h).map (fun u => List.replicate k 0 ++ u :: a :: v) ++ [List.replicate (k + 1) 0 ++ v]) := by
        rw [hu, List.map_append, List.map_map]
        simp [Function.comp_def, List.replicate_succ']
      rw [e2]
      refine rtP_loop ?_
      rcases hs with rfl | ⟨_, rfl⟩
      all_goals
        simp! [f_law_ups_body, f_law_ups_b1, range_sing]
        rw [kComp_map (e' := row) (fun u => List.replicate k 0 ++ u :: a :: v) (by rfl) (fun u hu => by simp! [f_law_ups_body]) (by omega)]
        simp! [f_law_ups_body, reduceCtorEq, idx_cons0, ha, List.drop_succ_cons, List.drop_zero, Int.toNat_one, sorted_tups (h := .inr hne)]
        first | exact ⟨rfl, rfl⟩ | rfl
theorem law_ups_s [H_f_law_ups P] {h : Int} {r : List Int} (h1 : 1 ≤ h) (h3 : h ≤ 3) (hr : r.length ≤ 800) : P.call (n + 1) "_law_ups" [.int h, row r] = .ok (.own (.lst ((ups h r).map row))) [] := by
  have hb := upsU_bound h3 (r := r) (by omega)
  rw [runf_law_ups]
  simp! [f_law_ups_body]
  have key := law_ups_loop (F := P.ifc (P.call n)) (r := r) h1 h3 r 0 (r.length + 1) [] .no (by omega) (by omega) (by simp; omega) (by simp) okS_no
  rw [List.range_eq_range', List.nil_append] at *
  have e2 : (upsU h r).map (List.replicate 0 0 ++ ·) = upsU h r := by simp
  rw [e2] at key
  exact finF_rtP (rtP_then (rtP_for key)) rfl (by decide)
theorem law_downs_s [H_f_law_downs P] {h : Int} {r : List Int} (h1 : 1 ≤ h) (h3 : h ≤ 3) (hr : r.length ≤ 800) : ∃ rv : RV, rv.d = .lst ((downs h r).map row) ∧ P.call (n + 2) "_law_downs" [.int h, row r] = .ok rv [] := by
  rw [runf_law_downs]
  cases r with
  | nil =>
    refine ⟨.own (.lst []), by simp [downs, downsU, srt, RV.d], ?_⟩
    simp! [f_law_downs_body, inof_law_ups, parsf_law_ups, dflf_law_ups]
  | cons a v =>
    by_cases ha : a = 0
    · subst ha
      have e1 := law_ups_s (P := P) (n := n) (r := v) h1 h3 (by simp at hr; omega)
      refine ⟨.val (.lst ((ups h v).map row)), by unfold downs ups; rw [downsU0]; rfl, ?_⟩
      simp! [f_law_downs_body, inof_law_ups, parsf_law_ups, dflf_law_ups, kIte_t, kIte_f, reduceCtorEq, idx_cons0, List.drop_succ_cons, List.drop_zero, Int.toNat_one, e1, -kIte_r]
    · refine ⟨.val (.lst ([v].map row)), by unfold downs; rw [downsUs ha]; simp [srt, RV.d], ?_⟩
      simp! [f_law_downs_body, inof_law_ups, parsf_law_ups, dflf_law_ups, kIte_t, kIte_f, reduceCtorEq, idx_cons0, List.drop_succ_cons, List.drop_zero, Int.toNat_one, ha, -kIte_r]
end Mini

/- R00d -/
set_option Elab.async false
set_option linter.all false
set_option maxRecDepth 100000
set_option maxHeartbeats 4000000
/-! what all laws have alike: their main loop -/
namespace Mini
open PySem
def lawB : List S := [.ifs (.notE (.call "_law_right" [.slot 1] [] [])) [.ret (.lit (.bl false))] []]
theorem law_main {P : Prog} {n : Nat} (hi : ∀ c, (P.ifc c).ino "_law_right" = [true]) (hp : ∀ c, (P.ifc c).pars "_law_right" = (["draw"] : List Str)) (hd : ∀ c, (P.ifc c).dfl "_law_right" = [])
    (hr : ∀ d, DrawOk d → ∃ d', DrawOk d' ∧ P.call n "_law_right" [drawD d] = .ok (.val (.bl true)) [drawD d']) {s : D} {τ : List Slot} {d : Draw} (hok : DrawOk d) (m : Nat) :
    ∃ (d' : Draw) (s2 : Slot), DrawOk d' ∧ (s2 = .no ∨ ∃ v, s2 = .val v) ∧ loop (turnS (P.ifc (P.call n)) (.sl 2) lawB) ((List.range m).map natD) (.val s :: .own (drawD d) :: .no :: τ) = .nx (.val s :: .own (drawD d') :: s2 :: τ) := by
  obtain ⟨ρ', e, d', s2, rfl, hd', q⟩ := loop_rel (st := turnS (P.ifc (P.call n)) (.sl 2) lawB) (e := natD)
    (fun _ ρ => ∃ (d' : Draw) (s2 : Slot), ρ = .val s :: .own (drawD d') :: s2 :: τ ∧ DrawOk d' ∧ (s2 = .no ∨ ∃ v, s2 = .val v))
    (List.range m) (.val s :: .own (drawD d) :: .no :: τ) ⟨d, .no, rfl, hok, .inl rfl⟩ (by
      rintro x r _ ⟨d1, s2, rfl, hd1, q⟩
      obtain ⟨d2, hd2, e⟩ := hr d1 hd1
      rcases q with rfl | ⟨_, rfl⟩ <;> simp! [lawB, hi, hp, hd, e] <;> exact ⟨_, _, rfl, hd2, .inr ⟨_, rfl⟩⟩)
  exact ⟨d', s2, hd', q, e⟩
end Mini

/- N01 -/
set_option Elab.async false
set_option linter.all false
set_option maxRecDepth 100000
set_option maxHeartbeats 0
namespace Mini
open PySem
def f_many_rows_b1 : List S := [.setP [2, 3] [.slot 3, .op .add (.op .mul (.slot 0) (.slot 3)) (.slot 2)]]

def f_many_rows_body : List S := [.setP [2, 3] [.lit (.int 0), .lit (.int 1)],
    .forS (.sl 4) (.range [.slot 1]) f_many_rows_b1,
    .ret (.slot 3)]

def f_many_rows : Fn where
  name := "many_rows"
  pars := ["hues", "length"]
  dfl := []
  ino := [false, false]
  N := ["hues", "length", "last", "found", "lap"]
  body := f_many_rows_body

class H_f_many_rows (P : Prog) : Prop where
  findf_many_rows : P.find "many_rows" = some f_many_rows
theorem inof_many_rows {P : Prog} [h : H_f_many_rows P] {c : Str → List D → CRes} : (P.ifc c).ino "many_rows" = [false, false] := ifc_ino h.findf_many_rows
theorem parsf_many_rows {P : Prog} [h : H_f_many_rows P] {c : Str → List D → CRes} : (P.ifc c).pars "many_rows" = (["hues", "length"] : List Str) := ifc_pars h.findf_many_rows
theorem dflf_many_rows {P : Prog} [h : H_f_many_rows P] {c : Str → List D → CRes} : (P.ifc c).dfl "many_rows" = ([] : List D) := ifc_dfl h.findf_many_rows
theorem runf_many_rows {P : Prog} [h : H_f_many_rows P] {n : Nat} {a0 a1 : D} : P.call (n + 1) "many_rows" [a0, a1] = finF [false, false] (denB (P.ifc (P.call n)) f_many_rows_body [.val a0, .val a1, .no, .no, .no]) := call_run h.findf_many_rows rfl

def f_all_rows_b1 : List S := [.set 5 (.op .add (.comp [6] (.sl 6) (.slot 2) [] (.tup [false, true] [.lit (.int 0), .slot 6])) (.comp2 [7, 6] [6] (.sl 7) (.range [.lit (.int 1), .op .add (.slot 0) (.lit (.int 1))]) [] (.sl 6) (.slot 3) [] (.tup [false, true] [.slot 7, .slot 6]))),
    .setP [2, 3] [.slot 3, .slot 5]]

def f_all_rows_body : List S := [.setP [2, 3] [.lst [] [], .lst [false] [.tup [] []]],
    .forS (.sl 4) (.range [.slot 1]) f_all_rows_b1,
    .ret (.slot 3)]

def f_all_rows : Fn where
  name := "all_rows"
  pars := ["hues", "length"]
  dfl := []
  ino := [false, false]
  N := ["hues", "length", "last", "found", "lap", "longer", "row", "hue"]
  body := f_all_rows_body

class H_f_all_rows (P : Prog) : Prop where
  findf_all_rows : P.find "all_rows" = some f_all_rows
theorem inof_all_rows {P : Prog} [h : H_f_all_rows P] {c : Str → List D → CRes} : (P.ifc c).ino "all_rows" = [false, false] := ifc_ino h.findf_all_rows
theorem parsf_all_rows {P : Prog} [h : H_f_all_rows P] {c : Str → List D → CRes} : (P.ifc c).pars "all_rows" = (["hues", "length"] : List Str) := ifc_pars h.findf_all_rows
theorem dflf_all_rows {P : Prog} [h : H_f_all_rows P] {c : Str → List D → CRes} : (P.ifc c).dfl "all_rows" = ([] : List D) := ifc_dfl h.findf_all_rows
theorem runf_all_rows {P : Prog} [h : H_f_all_rows P] {n : Nat} {a0 a1 : D} : P.call (n + 1) "all_rows" [a0, a1] = finF [false, false] (denB (P.ifc (P.call n)) f_all_rows_body [.val a0, .val a1, .no, .no, .no, .no, .no, .no]) := call_run h.findf_all_rows rfl

def f_row_many_body : List S := [.expr (.call "need_hues" [.slot 0] [] []),
    .ifs (.orE (.notE (.call "is_whole" [.slot 1] [] [])) (.notE (.chain .le .le (.lit (.int 0)) (.slot 1) (.glob "MOST_LENGTH")))) [.raise "BadLength" [.lit (.str "no number from 0 to 60")]] [],
    .ret (.call "many_rows" [.slot 0, .slot 1] [] [])]

def f_row_many : Fn where
  name := "row_many"
  pars := ["hues", "length"]
  dfl := []
  ino := [false, false]
  N := ["hues", "length"]
  body := f_row_many_body

class H_f_row_many (P : Prog) : Prop extends H_f_need_hues P, H_f_many_rows P, H_f_is_whole P where
  findf_row_many : P.find "row_many" = some f_row_many
  globf_row_many_MOST_LENGTH : P.globs.lookup ("MOST_LENGTH" : Str) = some (D.int 60)
theorem inof_row_many {P : Prog} [h : H_f_row_many P] {c : Str → List D → CRes} : (P.ifc c).ino "row_many" = [false, false] := ifc_ino h.findf_row_many
theorem parsf_row_many {P : Prog} [h : H_f_row_many P] {c : Str → List D → CRes} : (P.ifc c).pars "row_many" = (["hues", "length"] : List Str) := ifc_pars h.findf_row_many
theorem dflf_row_many {P : Prog} [h : H_f_row_many P] {c : Str → List D → CRes} : (P.ifc c).dfl "row_many" = ([] : List D) := ifc_dfl h.findf_row_many
theorem runf_row_many {P : Prog} [h : H_f_row_many P] {n : Nat} {a0 a1 : D} : P.call (n + 1) "row_many" [a0, a1] = finF [false, false] (denB (P.ifc (P.call n)) f_row_many_body [.val a0, .val a1]) := call_run h.findf_row_many rfl
theorem glf_row_many_MOST_LENGTH {P : Prog} [h : H_f_row_many P] {c : Str → List D → CRes} : (P.ifc c).glob "MOST_LENGTH" = some (D.int 60) := ifc_glob h.globf_row_many_MOST_LENGTH

def f_rows_of_body : List S := [.expr (.call "need_hues" [.slot 0] [] []),
    .ifs (.orE (.notE (.call "is_whole" [.slot 1] [] [])) (.notE (.chain .le .le (.lit (.int 0)) (.slot 1) (.glob "MOST_SIZE")))) [.raise "BadLength" [.lit (.str "no number from 0 to 24")]] [],
    .ifs (.cmp .gt (.call "many_rows" [.slot 0, .slot 1] [] []) (.glob "MOST_ROWS")) [.raise "TooMany" [.glob "MOST_ROWS"]] [],
    .ret (.bi .tuple [.bi .sorted [.call "all_rows" [.slot 0, .slot 1] [] []]])]

def f_rows_of : Fn where
  name := "rows_of"
  pars := ["hues", "length"]
  dfl := []
  ino := [false, false]
  N := ["hues", "length"]
  body := f_rows_of_body

class H_f_rows_of (P : Prog) : Prop extends H_f_need_hues P, H_f_many_rows P, H_f_is_whole P, H_f_all_rows P where
  findf_rows_of : P.find "rows_of" = some f_rows_of
  globf_rows_of_MOST_ROWS : P.globs.lookup ("MOST_ROWS" : Str) = some (D.int 2000)
  globf_rows_of_MOST_SIZE : P.globs.lookup ("MOST_SIZE" : Str) = some (D.int 24)
theorem inof_rows_of {P : Prog} [h : H_f_rows_of P] {c : Str → List D → CRes} : (P.ifc c).ino "rows_of" = [false, false] := ifc_ino h.findf_rows_of
theorem parsf_rows_of {P : Prog} [h : H_f_rows_of P] {c : Str → List D → CRes} : (P.ifc c).pars "rows_of" = (["hues", "length"] : List Str) := ifc_pars h.findf_rows_of
theorem dflf_rows_of {P : Prog} [h : H_f_rows_of P] {c : Str → List D → CRes} : (P.ifc c).dfl "rows_of" = ([] : List D) := ifc_dfl h.findf_rows_of
theorem runf_rows_of {P : Prog} [h : H_f_rows_of P] {n : Nat} {a0 a1 : D} : P.call (n + 1) "rows_of" [a0, a1] = finF [false, false] (denB (P.ifc (P.call n)) f_rows_of_body [.val a0, .val a1]) := call_run h.findf_rows_of rfl
theorem glf_rows_of_MOST_ROWS {P : Prog} [h : H_f_rows_of P] {c : Str → List D → CRes} : (P.ifc c).glob "MOST_ROWS" = some (D.int 2000) := ifc_glob h.globf_rows_of_MOST_ROWS
theorem glf_rows_of_MOST_SIZE {P : Prog} [h : H_f_rows_of P] {c : Str → List D → CRes} : (P.ifc c).glob "MOST_SIZE" = some (D.int 24) := ifc_glob h.globf_rows_of_MOST_SIZE

def f_law_number_body : List S := [.ret (.call "_law_pick" [.slot 0, .lst [false, false, false, false, false, false, false, false, false] [.lit (.non), .op .sub (.slot 1) (.lit (.int 1)), .op .add (.slot 2) (.lit (.int 1)), .lit (.str "1"), .lit (.bl true), .tup [false] [.slot 1], .lst [] [], .op .sub (.lit (.int 0)) (.op .pow (.lit (.int 10)) (.lit (.int 20))), .op .pow (.lit (.int 10)) (.lit (.int 20))]] [] [])]

def f_law_number : Fn where
  name := "_law_number"
  pars := ["draw", "low", "high"]
  dfl := []
  ino := [true, false, false]
  N := ["draw", "low", "high"]
  body := f_law_number_body

class H_f_law_number (P : Prog) : Prop extends H_f_law_pick P where
  findf_law_number : P.find "_law_number" = some f_law_number
theorem inof_law_number {P : Prog} [h : H_f_law_number P] {c : Str → List D → CRes} : (P.ifc c).ino "_law_number" = [true, false, false] := ifc_ino h.findf_law_number
theorem parsf_law_number {P : Prog} [h : H_f_law_number P] {c : Str → List D → CRes} : (P.ifc c).pars "_law_number" = (["draw", "low", "high"] : List Str) := ifc_pars h.findf_law_number
theorem dflf_law_number {P : Prog} [h : H_f_law_number P] {c : Str → List D → CRes} : (P.ifc c).dfl "_law_number" = ([] : List D) := ifc_dfl h.findf_law_number
theorem runf_law_number {P : Prog} [h : H_f_law_number P] {n : Nat} {a0 a1 a2 : D} : P.call (n + 1) "_law_number" [a0, a1, a2] = finF [true, false, false] (denB (P.ifc (P.call n)) f_law_number_body [.ref a0, .val a1, .val a2]) := call_run h.findf_law_number rfl

end Mini

/- N13 -/
set_option Elab.async false
set_option linter.all false
set_option maxRecDepth 100000
set_option maxHeartbeats 0
namespace Mini
open PySem
def f_square_by_body : List S := [.ifs (.cmp .ne (.slot 3) (.lit (.int 0))) [.ret (.tup [false, true] [.slot 3, .slot 0])] [],
    .ifs (.cmp .eq (.slot 1) (.slot 0)) [.ret (.slot 2)] [],
    .ret (.ite (.cmp .eq (.slot 2) (.slot 0)) (.slot 1) (.tup [false, true] [.lit (.int 0), .slot 0]))]

def f_square_by : Fn where
  name := "square_by"
  pars := ["low", "left", "right", "hue"]
  dfl := []
  ino := [false, false, false, false]
  N := ["low", "left", "right", "hue"]
  body := f_square_by_body

class H_f_square_by (P : Prog) : Prop where
  findf_square_by : P.find "square_by" = some f_square_by
theorem inof_square_by {P : Prog} [h : H_f_square_by P] {c : Str → List D → CRes} : (P.ifc c).ino "square_by" = [false, false, false, false] := ifc_ino h.findf_square_by
theorem parsf_square_by {P : Prog} [h : H_f_square_by P] {c : Str → List D → CRes} : (P.ifc c).pars "square_by" = (["low", "left", "right", "hue"] : List Str) := ifc_pars h.findf_square_by
theorem dflf_square_by {P : Prog} [h : H_f_square_by P] {c : Str → List D → CRes} : (P.ifc c).dfl "square_by" = ([] : List D) := ifc_dfl h.findf_square_by
theorem runf_square_by {P : Prog} [h : H_f_square_by P] {n : Nat} {a0 a1 a2 a3 : D} : P.call (n + 1) "square_by" [a0, a1, a2, a3] = finF [false, false, false, false] (denB (P.ifc (P.call n)) f_square_by_body [.val a0, .val a1, .val a2, .val a3]) := call_run h.findf_square_by rfl

def f_back_by_body : List S := [.ifs (.cmp .eq (.slot 0) (.slot 2)) [.ret (.tup [false, false] [.slot 1, .lit (.int 0)])] [],
    .ifs (.cmp .eq (.slot 1) (.slot 2)) [.ret (.tup [false, false] [.slot 0, .lit (.int 0)])] [],
    .ret (.tup [false, false] [.slice (.slot 2) (.lit (.int 1)) (.lit .non), .idx (.slot 2) (.lit (.int 0))])]

def f_back_by : Fn where
  name := "back_by"
  pars := ["left", "right", "top"]
  dfl := []
  ino := [false, false, false]
  N := ["left", "right", "top"]
  body := f_back_by_body

class H_f_back_by (P : Prog) : Prop where
  findf_back_by : P.find "back_by" = some f_back_by
theorem inof_back_by {P : Prog} [h : H_f_back_by P] {c : Str → List D → CRes} : (P.ifc c).ino "back_by" = [false, false, false] := ifc_ino h.findf_back_by
theorem parsf_back_by {P : Prog} [h : H_f_back_by P] {c : Str → List D → CRes} : (P.ifc c).pars "back_by" = (["left", "right", "top"] : List Str) := ifc_pars h.findf_back_by
theorem dflf_back_by {P : Prog} [h : H_f_back_by P] {c : Str → List D → CRes} : (P.ifc c).dfl "back_by" = ([] : List D) := ifc_dfl h.findf_back_by
theorem runf_back_by {P : Prog} [h : H_f_back_by P] {n : Nat} {a0 a1 a2 : D} : P.call (n + 1) "back_by" [a0, a1, a2] = finF [false, false, false] (denB (P.ifc (P.call n)) f_back_by_body [.val a0, .val a1, .val a2]) := call_run h.findf_back_by rfl

def f_is_side_body : List S := [.ret (.orE (.andE (.cmp .eq (.slot 2) (.slot 1)) (.bi (.isi .tup) [.slot 2])) (.andE (.call "is_row_of" [.slot 0, .slot 2] [] []) (.cmp .isIn (.slot 2) (.call "ups_by" [.slot 0, .slot 1] [] []))))]

def f_is_side : Fn where
  name := "is_side"
  pars := ["hues", "low", "thing"]
  dfl := []
  ino := [false, false, false]
  N := ["hues", "low", "thing"]
  body := f_is_side_body

class H_f_is_side (P : Prog) : Prop extends H_f_is_row_of P, H_f_ups_by P where
  findf_is_side : P.find "is_side" = some f_is_side
theorem inof_is_side {P : Prog} [h : H_f_is_side P] {c : Str → List D → CRes} : (P.ifc c).ino "is_side" = [false, false, false] := ifc_ino h.findf_is_side
theorem parsf_is_side {P : Prog} [h : H_f_is_side P] {c : Str → List D → CRes} : (P.ifc c).pars "is_side" = (["hues", "low", "thing"] : List Str) := ifc_pars h.findf_is_side
theorem dflf_is_side {P : Prog} [h : H_f_is_side P] {c : Str → List D → CRes} : (P.ifc c).dfl "is_side" = ([] : List D) := ifc_dfl h.findf_is_side
theorem runf_is_side {P : Prog} [h : H_f_is_side P] {n : Nat} {a0 a1 a2 : D} : P.call (n + 1) "is_side" [a0, a1, a2] = finF [false, false, false] (denB (P.ifc (P.call n)) f_is_side_body [.val a0, .val a1, .val a2]) := call_run h.findf_is_side rfl

def f_square_body : List S := [.expr (.call "need_hues" [.slot 0] [] []),
    .ifs (.notE (.call "is_row_of" [.slot 0, .slot 1] [] [])) [.raise "BadLow" [.lit (.str "no row")]] [],
    .ifs (.orE (.notE (.call "is_row_of" [.slot 0, .slot 2] [] [])) (.notE (.call "is_side" [.slot 0, .slot 1, .slot 2] [] []))) [.raise "BadLeft" [.lit (.str "neither low nor a step up from it")]] [],
    .ifs (.orE (.notE (.call "is_row_of" [.slot 0, .slot 3] [] [])) (.notE (.call "is_side" [.slot 0, .slot 1, .slot 3] [] []))) [.raise "BadRight" [.lit (.str "neither low nor a step up from it")]] [],
    .ifs (.orE (.notE (.call "is_whole" [.slot 4] [] [])) (.orE (.notE (.chain .le .le (.lit (.int 0)) (.slot 4) (.slot 0))) (.andE (.cmp .ne (.slot 4) (.lit (.int 0))) (.notE (.chain .eq .eq (.slot 2) (.slot 3) (.slot 1)))))) [.raise "BadHue" [.lit (.str "no hue, or one beside a step up")]] [],
    .ret (.call "square_by" [.slot 1, .slot 2, .slot 3, .slot 4] [] [])]

def f_square : Fn where
  name := "square"
  pars := ["hues", "low", "left", "right", "hue"]
  dfl := []
  ino := [false, false, false, false, false]
  N := ["hues", "low", "left", "right", "hue"]
  body := f_square_body

class H_f_square (P : Prog) : Prop extends H_f_need_hues P, H_f_square_by P, H_f_is_row_of P, H_f_is_side P, H_f_is_whole P where
  findf_square : P.find "square" = some f_square
theorem inof_square {P : Prog} [h : H_f_square P] {c : Str → List D → CRes} : (P.ifc c).ino "square" = [false, false, false, false, false] := ifc_ino h.findf_square
theorem parsf_square {P : Prog} [h : H_f_square P] {c : Str → List D → CRes} : (P.ifc c).pars "square" = (["hues", "low", "left", "right", "hue"] : List Str) := ifc_pars h.findf_square
theorem dflf_square {P : Prog} [h : H_f_square P] {c : Str → List D → CRes} : (P.ifc c).dfl "square" = ([] : List D) := ifc_dfl h.findf_square
theorem runf_square {P : Prog} [h : H_f_square P] {n : Nat} {a0 a1 a2 a3 a4 : D} : P.call (n + 1) "square" [a0, a1, a2, a3, a4] = finF [false, false, false, false, false] (denB (P.ifc (P.call n)) f_square_body [.val a0, .val a1, .val a2, .val a3, .val a4]) := call_run h.findf_square rfl

def f_square_back_body : List S := [.expr (.call "need_hues" [.slot 0] [] []),
    .ifs (.notE (.call "is_row_of" [.slot 0, .slot 1] [] [])) [.raise "BadLeft" [.lit (.str "no row")]] [],
    .ifs (.notE (.call "is_row_of" [.slot 0, .slot 2] [] [])) [.raise "BadRight" [.lit (.str "no row")]] [],
    .ifs (.orE (.notE (.call "is_row_of" [.slot 0, .slot 3] [] [])) (.notE (.bi .all [.comp [4] (.sl 4) (.tup [false, false] [.slot 1, .slot 2]) [] (.orE (.cmp .eq (.slot 4) (.slot 3)) (.cmp .isIn (.slot 4) (.call "downs_by" [.slot 0, .slot 3] [] [])))]))) [.raise "BadTop" [.lit (.str "not above both")]] [],
    .ret (.call "back_by" [.slot 1, .slot 2, .slot 3] [] [])]

def f_square_back : Fn where
  name := "square_back"
  pars := ["hues", "left", "right", "top"]
  dfl := []
  ino := [false, false, false, false]
  N := ["hues", "left", "right", "top", "side"]
  body := f_square_back_body

class H_f_square_back (P : Prog) : Prop extends H_f_need_hues P, H_f_back_by P, H_f_is_row_of P, H_f_downs_by P where
  findf_square_back : P.find "square_back" = some f_square_back
theorem inof_square_back {P : Prog} [h : H_f_square_back P] {c : Str → List D → CRes} : (P.ifc c).ino "square_back" = [false, false, false, false] := ifc_ino h.findf_square_back
theorem parsf_square_back {P : Prog} [h : H_f_square_back P] {c : Str → List D → CRes} : (P.ifc c).pars "square_back" = (["hues", "left", "right", "top"] : List Str) := ifc_pars h.findf_square_back
theorem dflf_square_back {P : Prog} [h : H_f_square_back P] {c : Str → List D → CRes} : (P.ifc c).dfl "square_back" = ([] : List D) := ifc_dfl h.findf_square_back
theorem runf_square_back {P : Prog} [h : H_f_square_back P] {n : Nat} {a0 a1 a2 a3 : D} : P.call (n + 1) "square_back" [a0, a1, a2, a3] = finF [false, false, false, false] (denB (P.ifc (P.call n)) f_square_back_body [.val a0, .val a1, .val a2, .val a3, .no]) := call_run h.findf_square_back rfl

def f_law_square_body : List S := [.ifs (.cmp .ne (.slot 3) (.lit (.int 0))) [.ret (.op .add (.tup [false] [.slot 3]) (.slot 0))] [],
    .ifs (.cmp .eq (.slot 1) (.slot 0)) [.ret (.slot 2)] [],
    .ret (.ite (.cmp .eq (.slot 2) (.slot 0)) (.slot 1) (.op .add (.tup [false] [.lit (.int 0)]) (.slot 0)))]

def f_law_square : Fn where
  name := "_law_square"
  pars := ["low", "left", "right", "hue"]
  dfl := []
  ino := [false, false, false, false]
  N := ["low", "left", "right", "hue"]
  body := f_law_square_body

class H_f_law_square (P : Prog) : Prop where
  findf_law_square : P.find "_law_square" = some f_law_square
theorem inof_law_square {P : Prog} [h : H_f_law_square P] {c : Str → List D → CRes} : (P.ifc c).ino "_law_square" = [false, false, false, false] := ifc_ino h.findf_law_square
theorem parsf_law_square {P : Prog} [h : H_f_law_square P] {c : Str → List D → CRes} : (P.ifc c).pars "_law_square" = (["low", "left", "right", "hue"] : List Str) := ifc_pars h.findf_law_square
theorem dflf_law_square {P : Prog} [h : H_f_law_square P] {c : Str → List D → CRes} : (P.ifc c).dfl "_law_square" = ([] : List D) := ifc_dfl h.findf_law_square
theorem runf_law_square {P : Prog} [h : H_f_law_square P] {n : Nat} {a0 a1 a2 a3 : D} : P.call (n + 1) "_law_square" [a0, a1, a2, a3] = finF [false, false, false, false] (denB (P.ifc (P.call n)) f_law_square_body [.val a0, .val a1, .val a2, .val a3]) := call_run h.findf_law_square rfl

end Mini

/- L13 -/
set_option Elab.async false
set_option linter.all false
set_option maxRecDepth 100000
set_option maxHeartbeats 4000000
namespace Mini
open PySem
variable {P : Prog} {n : Nat}
mutual
theorem up_down {h : Int} : ∀ {r x : List Int}, Lets h r → x ∈ upsU h r → r ∈ downsU h x
  | r, x, hr, hx => by
    rcases mem_upsU.mp hx with ⟨u, hu, rfl⟩ | ⟨z, hz, rfl⟩
    · rw [downsUs (by omega)]; simp
    · rw [downsU0]; exact down_up hr hz
termination_by r => (r.length, 1)
decreasing_by all_goals simp_wf; omega
theorem down_up {h : Int} : ∀ {r z : List Int}, Lets h r → z ∈ downsU h r → r ∈ upsU h z
  | [], _, _, hz => by simp [downsU] at hz
  | a :: v, z, hr, hz => by
    have hr' := Lets.cons.mp hr
    by_cases ha : a = 0
    · subst ha
      rw [downsU0] at hz
      exact mem_upsU.mpr (.inr ⟨v, up_down hr'.2 hz, rfl⟩)
    · rw [downsUs ha, List.mem_singleton] at hz
      subst hz
      exact mem_upsU.mpr (.inl ⟨a, by omega, rfl⟩)
termination_by r => (r.length, 0)
decreasing_by all_goals simp_wf; omega
end
def squareL (low left right : List Int) (hue : Int) : List Int := if hue ≠ 0 then hue :: low else if left = low then right else if right = low then left else 0 :: low
/-- a side: the row or a step up from it -/
def Side (h : Int) (low x : List Int) : Prop := x = low ∨ x ∈ upsU h low
theorem square_by_s [H_f_square_by P] {low left right : List Int} {hue : Int} (hl : low.length ≤ 1000) : P.call (n + 1) "square_by" [row low, row left, row right, .int hue] = .ok (.val (row (squareL low left right hue))) [] := by
  rw [runf_square_by]
  unfold squareL
  by_cases h0 : hue = 0
  · by_cases h1 : left = low
    · simp! [f_square_by_body, h0, h1, ne_eq, not_true_eq_false]
    · by_cases h2 : right = low <;> simp! [f_square_by_body, h0, h1, h2, ne_eq, not_true_eq_false]
  · simp! [f_square_by_body, h0, ne_eq, not_false_eq_true]
theorem law_square_s [H_f_law_square P] {low left right : List Int} {hue : Int} (hl : low.length ≤ 1000) : P.call (n + 1) "_law_square" [row low, row left, row right, .int hue] = .ok (.val (row (squareL low left right hue))) [] := by
  rw [runf_law_square]
  unfold squareL
  by_cases h0 : hue = 0
  · by_cases h1 : left = low
    · simp! [f_law_square_body, h0, h1, ne_eq, not_true_eq_false]
    · by_cases h2 : right = low <;> simp! [f_law_square_body, h0, h1, h2, ne_eq, not_true_eq_false]
  · simp! [f_law_square_body, h0, ne_eq, not_false_eq_true]
theorem back_by_s [H_f_back_by P] {left right : List Int} {a : Int} {v : List Int} : P.call (n + 1) "back_by" [row left, row right, row (a :: v)] = .ok (.val (if left = a :: v then .tup [row right, .int 0] else if right = a :: v then .tup [row left, .int 0] else .tup [row v, .int a])) [] := by
  rw [runf_back_by]
  by_cases h1 : left = a :: v
  · simp! [f_back_by_body, h1]
  · by_cases h2 : right = a :: v <;> simp! [f_back_by_body, h1, h2, idx_cons0, List.drop_one, List.tail_cons]
theorem is_side_s [H_f_is_side P] {h : Int} {low x : List Int} (h1 : 1 ≤ h) (h3 : h ≤ 3) (hl : RowOk h low) (hx : RowOk h x) : P.call (n + 3) "is_side" [.int h, row low, row x] = .ok (.val (.bl (decide (x = low) || memB x (ups h low)))) [] := by
  have e1 := is_row_of_r (P := P) (n := n) hx
  have e2 := ups_by_s (P := P) (n := n) (r := low) h1 h3 (by have := hl.len; omega)
  rw [runf_is_side]
  simp! [f_is_side_body, inof_is_row_of, parsf_is_row_of, dflf_is_row_of, inof_ups_by, parsf_ups_by, dflf_ups_by, e1, e2]
theorem side_t {h : Int} {low x : List Int} (q : Side h low x) : (decide (x = low) || memB x (ups h low)) = true := by
  rcases q with rfl | q
  · simp
  · rw [memB_t (mem_ups.mpr q), Bool.or_true]
theorem side_f {h : Int} {low x : List Int} (q : ¬ Side h low x) : (decide (x = low) || memB x (ups h low)) = false := by
  rw [decide_eq_false (fun e => q (.inl e)), memB_f (fun e => q (.inr (mem_ups.mp e)))]
  rfl
/-- what is no side -/
def noSide (h : Int) (low : List Int) (d : D) : Prop := look2 d = true ∧ (isRowD h d = false ∨ ∃ r, d = row r ∧ RowOk h r ∧ ¬ Side h low r)
theorem square_badH [H_f_square P] {x a b c d : D} (hb : x.base = true) (h : isHuesD x = false) : P.call (n + 4) "square" [x, a, b, c, d] = .ex "BadHues" [] [] := by
  have e1 := need_hues_bad (P := P) (n := n) hb h
  rw [runf_square]
  simp! [f_square_body, inof_need_hues, parsf_need_hues, dflf_need_hues, inof_square_by, parsf_square_by, dflf_square_by, inof_is_row_of, parsf_is_row_of, dflf_is_row_of, inof_is_side, parsf_is_side, dflf_is_side, inof_is_whole, parsf_is_whole, dflf_is_whole, e1]
theorem square_badLow [H_f_square P] {h : Int} {a b c d : D} (h1 : 1 ≤ h) (h3 : h ≤ 3) (ha : look2 a = true) (hr : isRowD h a = false) : P.call (n + 4) "square" [.int h, a, b, c, d] = .ex "BadLow" [] [] := by
  have e1 := need_hues_ok (P := P) (n := n) h1 h3
  have e2 := is_row_of_s (P := P) (n := n + 1) (h := h) ha
  rw [runf_square]
  simp! [f_square_body, inof_need_hues, parsf_need_hues, dflf_need_hues, inof_square_by, parsf_square_by, dflf_square_by, inof_is_row_of, parsf_is_row_of, dflf_is_row_of, inof_is_side, parsf_is_side, dflf_is_side, inof_is_whole, parsf_is_whole, dflf_is_whole, e1, e2, hr]
  rw [kRaise_n (by decide)]
  simp! [and_self]
theorem square_badLeft [H_f_square P] {h : Int} {low : List Int} {b c d : D} (h1 : 1 ≤ h) (h3 : h ≤ 3) (hl : RowOk h low) (hb : noSide h low b) : P.call (n + 4) "square" [.int h, row low, b, c, d] = .ex "BadLeft" [] [] := by
  have e1 := need_hues_ok (P := P) (n := n) h1 h3
  have e2 := is_row_of_r (P := P) (n := n + 1) hl
  have e3 := is_row_of_s (P := P) (n := n + 1) (h := h) hb.1
  rw [runf_square]
  rcases hb.2 with q | ⟨r, rfl, hr, q⟩
  · simp! [f_square_body, inof_need_hues, parsf_need_hues, dflf_need_hues, inof_square_by, parsf_square_by, dflf_square_by, inof_is_row_of, parsf_is_row_of, dflf_is_row_of, inof_is_side, parsf_is_side, dflf_is_side, inof_is_whole, parsf_is_whole, dflf_is_whole, kOr_t, kOr_f, e1, e2, e3, q, -kOr_r]
    rw [kRaise_n (by decide)]
    simp! [and_self]
  · have e4 := is_side_s (P := P) (n := n) h1 h3 hl hr
    have e5 := is_row_of_r (P := P) (n := n + 1) hr
    simp! [f_square_body, inof_need_hues, parsf_need_hues, dflf_need_hues, inof_square_by, parsf_square_by, dflf_square_by, inof_is_row_of, parsf_is_row_of, dflf_is_row_of, inof_is_side, parsf_is_side, dflf_is_side, inof_is_whole, parsf_is_whole, dflf_is_whole, e1, e2, e4, e5, side_f q]
    rw [kRaise_n (by decide)]
    simp! [and_self]
theorem square_badRight [H_f_square P] {h : Int} {low left : List Int} {c d : D} (h1 : 1 ≤ h) (h3 : h ≤ 3) (hl : RowOk h low) (hle : RowOk h left) (hs : Side h low left) (hb : noSide h low c) : P.call (n + 4) "square" [.int h, row low, row left, c, d] = .ex "BadRight" [] [] := by
  have e1 := need_hues_ok (P := P) (n := n) h1 h3
  have e2 := is_row_of_r (P := P) (n := n + 1) hl
  have e6 := is_row_of_r (P := P) (n := n + 1) hle
  have e7 := is_side_s (P := P) (n := n) h1 h3 hl hle
  have e3 := is_row_of_s (P := P) (n := n + 1) (h := h) hb.1
  rw [runf_square]
  rcases hb.2 with q | ⟨r, rfl, hr, q⟩
  · simp! [f_square_body, inof_need_hues, parsf_need_hues, dflf_need_hues, inof_square_by, parsf_square_by, dflf_square_by, inof_is_row_of, parsf_is_row_of, dflf_is_row_of, inof_is_side, parsf_is_side, dflf_is_side, inof_is_whole, parsf_is_whole, dflf_is_whole, kOr_t, kOr_f, e1, e2, e6, e7, side_t hs, e3, q, -kOr_r]
    rw [kRaise_n (by decide)]
    simp! [and_self]
  · have e4 := is_side_s (P := P) (n := n) h1 h3 hl hr
    have e5 := is_row_of_r (P := P) (n := n + 1) hr
    simp! [f_square_body, inof_need_hues, parsf_need_hues, dflf_need_hues, inof_square_by, parsf_square_by, dflf_square_by, inof_is_row_of, parsf_is_row_of, dflf_is_row_of, inof_is_side, parsf_is_side, dflf_is_side, inof_is_whole, parsf_is_whole, dflf_is_whole, e1, e2, e6, e7, side_t hs, e4, e5, side_f q]
    rw [kRaise_n (by decide)]
    simp! [and_self]
theorem square_s [H_f_square P] {h : Int} {low left right : List Int} {hue : Int} (h1 : 1 ≤ h) (h3 : h ≤ 3) (hl : RowOk h low) (hle : RowOk h left) (hri : RowOk h right) (sl : Side h low left) (sr : Side h low right) (k1 : 0 ≤ hue) (k2 : hue ≤ h) (hk : hue ≠ 0 → left = low ∧ right = low) :
    P.call (n + 4) "square" [.int h, row low, row left, row right, .int hue] = .ok (.val (row (squareL low left right hue))) [] := by
  have e1 := need_hues_ok (P := P) (n := n) h1 h3
  have e2 := is_row_of_r (P := P) (n := n + 1) hl
  have e3 := is_row_of_r (P := P) (n := n + 1) hle
  have e4 := is_row_of_r (P := P) (n := n + 1) hri
  have e5 := is_side_s (P := P) (n := n) h1 h3 hl hle
  have e6 := is_side_s (P := P) (n := n) h1 h3 hl hri
  have e7 := is_whole_I (P := P) (n := n + 2) (i := hue)
  have e8 := square_by_s (P := P) (n := n + 2) (low := low) (left := left) (right := right) (hue := hue) (by have := hl.len; omega)
  rw [runf_square]
  by_cases h0 : hue = 0
  · subst h0
    simp! [f_square_body, inof_need_hues, parsf_need_hues, dflf_need_hues, inof_square_by, parsf_square_by, dflf_square_by, inof_is_row_of, parsf_is_row_of, dflf_is_row_of, inof_is_side, parsf_is_side, dflf_is_side, inof_is_whole, parsf_is_whole, dflf_is_whole, e1, e2, e3, e4, e5, e6, side_t sl, side_t sr, e7, e8, k2, Int.le_refl]
  · obtain ⟨rfl, rfl⟩ := hk h0
    simp! [f_square_body, inof_need_hues, parsf_need_hues, dflf_need_hues, inof_square_by, parsf_square_by, dflf_square_by, inof_is_row_of, parsf_is_row_of, dflf_is_row_of, inof_is_side, parsf_is_side, dflf_is_side, inof_is_whole, parsf_is_whole, dflf_is_whole, e1, e2, e3, e4, e5, e6, side_t sl, side_t sr, e7, e8, k1, k2, h0]
theorem square_badHue [H_f_square P] {h : Int} {low left right : List Int} {d : D} (h1 : 1 ≤ h) (h3 : h ≤ 3) (hl : RowOk h low) (hle : RowOk h left) (hri : RowOk h right) (sl : Side h low left) (sr : Side h low right)
    (hd : d.base = true ∧ (d.whole = false ∨ ∃ k, d = .int k ∧ ((decide (0 ≤ k) && decide (k ≤ h)) = false ∨ (k = 1 ∧ ¬ (left = right ∧ right = low))))) :
    P.call (n + 4) "square" [.int h, row low, row left, row right, d] = .ex "BadHue" [] [] := by
  have e1 := need_hues_ok (P := P) (n := n) h1 h3
  have e2 := is_row_of_r (P := P) (n := n + 1) hl
  have e3 := is_row_of_r (P := P) (n := n + 1) hle
  have e4 := is_row_of_r (P := P) (n := n + 1) hri
  have e5 := is_side_s (P := P) (n := n) h1 h3 hl hle
  have e6 := is_side_s (P := P) (n := n) h1 h3 hl hri
  have e7 := is_whole_s (P := P) (n := n + 2) hd.1
  rw [runf_square]
  rcases hd.2 with q | ⟨k, rfl, q | ⟨rfl, q⟩⟩
  · simp! [f_square_body, inof_need_hues, parsf_need_hues, dflf_need_hues, inof_square_by, parsf_square_by, dflf_square_by, inof_is_row_of, parsf_is_row_of, dflf_is_row_of, inof_is_side, parsf_is_side, dflf_is_side, inof_is_whole, parsf_is_whole, dflf_is_whole, kOr_t, kOr_f, e1, e2, e3, e4, e5, e6, side_t sl, side_t sr, e7, q, -kOr_r]
    rw [kRaise_n (by decide)]
    simp! [and_self]
  · simp! [f_square_body, inof_need_hues, parsf_need_hues, dflf_need_hues, inof_square_by, parsf_square_by, dflf_square_by, inof_is_row_of, parsf_is_row_of, dflf_is_row_of, inof_is_side, parsf_is_side, dflf_is_side, inof_is_whole, parsf_is_whole, dflf_is_whole, e1, e2, e3, e4, e5, e6, side_t sl, side_t sr, e7, q]
    rw [kRaise_n (by decide)]
    simp! [and_self]
  · have q' : (decide (left = right) && decide (right = low)) = false := by
      rw [Bool.eq_false_iff]
      intro z
      rw [Bool.and_eq_true, decide_eq_true_eq, decide_eq_true_eq] at z
      exact q z
    simp! [f_square_body, inof_need_hues, parsf_need_hues, dflf_need_hues, inof_square_by, parsf_square_by, dflf_square_by, inof_is_row_of, parsf_is_row_of, dflf_is_row_of, inof_is_side, parsf_is_side, dflf_is_side, inof_is_whole, parsf_is_whole, dflf_is_whole, e1, e2, e3, e4, e5, e6, side_t sl, side_t sr, e7, q', h1]
    rw [kRaise_n (by decide)]
    simp! [and_self]
theorem back_by_l [H_f_back_by P] {left right : List Int} : P.call (n + 1) "back_by" [row left, row right, row left] = .ok (.val (.tup [row right, .int 0])) [] := by
  rw [runf_back_by]
  simp! [f_back_by_body]
theorem square_back_s [H_f_square_back P] {h : Int} {left right t : List Int} {x : D} (hb : P.call (n + 3) "back_by" [row left, row right, row t] = .ok (.val x) []) (h1 : 1 ≤ h) (h3 : h ≤ 3) (hle : RowOk h left) (hri : RowOk h right) (ht : RowOk h t) (sl : left = t ∨ left ∈ downsU h t) (sr : right = t ∨ right ∈ downsU h t) :
    P.call (n + 4) "square_back" [.int h, row left, row right, row t] = .ok (.val x) [] := by
  have e1 := need_hues_ok (P := P) (n := n) h1 h3
  have e2 := is_row_of_r (P := P) (n := n + 1) hle
  have e3 := is_row_of_r (P := P) (n := n + 1) hri
  have e4 := is_row_of_r (P := P) (n := n + 1) ht
  have e5 := downs_by_s (P := P) (n := n + 1) (r := t) h1 h3 (by have := ht.len; omega)
  have hs : ∀ x : List Int, (x = t ∨ x ∈ downsU h t) → (decide (x = t) || memB x (downs h t)) = true := by
    rintro x (rfl | q)
    · simp
    · rw [memB_t (mem_downs.mpr q), Bool.or_true]
  rw [runf_square_back]
  simp! [f_square_back_body, inof_need_hues, parsf_need_hues, dflf_need_hues, inof_back_by, parsf_back_by, dflf_back_by, inof_is_row_of, parsf_is_row_of, dflf_is_row_of, inof_downs_by, parsf_downs_by, dflf_downs_by, e1, e2, e3, e4]
  rw [show [row left, row right] = [left, right].map row from rfl, kComp_map (e' := D.bl) (fun _ => true) (by rfl) (fun x hx => by
    have hx' : (decide (x = t) || memB x (downs h t)) = true := by
      simp only [List.mem_cons, List.not_mem_nil, or_false] at hx
      rcases hx with rfl | rfl
      · exact hs _ sl
      · exact hs _ sr
    simp! [f_square_back_body, inof_need_hues, parsf_need_hues, dflf_need_hues, inof_back_by, parsf_back_by, dflf_back_by, inof_is_row_of, parsf_is_row_of, dflf_is_row_of, inof_downs_by, parsf_downs_by, dflf_downs_by, e5, hx']) (by simp)]
  simp! [f_square_back_body, inof_need_hues, parsf_need_hues, dflf_need_hues, inof_back_by, parsf_back_by, dflf_back_by, inof_is_row_of, parsf_is_row_of, dflf_is_row_of, inof_downs_by, parsf_downs_by, dflf_downs_by, hb, show (List.map (fun _ => true) [left, right]).all id = true from rfl]
theorem pick_rows [H_f_law_pick P] {d : Draw} (hd : DrawOk d) {l : List (List Int)} (h0 : l ≠ []) (h1 : l.length ≤ 16777216) : ∃ (x : List Int) (d' : Draw), DrawOk d' ∧ x ∈ l ∧ P.call (n + 3) "_law_pick" [drawD d, .lst (l.map row)] = .ok (.val (row x)) [drawD d'] := by
  have hp : 1 ≤ l.length := by cases l with | nil => exact absurd rfl h0 | cons a l => simp
  obtain ⟨x, d', hd, hx, e⟩ := law_pick_s (P := P) (n := n) hd (xs := l.map row) (by rw [List.length_map]; exact hp) (by rw [List.length_map]; exact h1)
  obtain ⟨a, ha, rfl⟩ := List.mem_map.mp hx
  exact ⟨a, d', hd, ha, e⟩
theorem upsU_of_l {h u : Int} {r : List Int} (h1 : 1 ≤ u) (h2 : u ≤ h) : u :: r ∈ upsU h r := mem_upsU.mpr (.inl ⟨u, ⟨h1, h2⟩, rfl⟩)
theorem upsU_of_0 {h : Int} {r x : List Int} (hr : Lets h r) (q : x ∈ upsU h r) : 0 :: r ∈ upsU h x := mem_upsU.mpr (.inr ⟨r, up_down hr q, rfl⟩)
/-- what a square makes stands over both its sides -/
theorem square_over {h : Int} {low left right : List Int} {k : Int} (hl : Lets h low) (sl : Side h low left) (sr : Side h low right) (k1 : 0 ≤ k) (k2 : k ≤ h) (hk : k ≠ 0 → left = low ∧ right = low) :
    (squareL low left right k = left ∨ squareL low left right k ∈ upsU h left) ∧ (squareL low left right k = right ∨ squareL low left right k ∈ upsU h right) := by
  unfold squareL
  by_cases h0 : k = 0
  · rw [if_neg (fun z => z h0)]
    by_cases e1 : left = low
    · rw [if_pos e1]
      refine ⟨?_, .inl rfl⟩
      rw [e1]
      exact sr
    rw [if_neg e1]
    by_cases e2 : right = low
    · rw [if_pos e2]
      refine ⟨.inl rfl, ?_⟩
      rw [e2]
      exact sl
    rw [if_neg e2]
    exact ⟨.inr (upsU_of_0 hl (sl.resolve_left e1)), .inr (upsU_of_0 hl (sr.resolve_left e2))⟩
  · obtain ⟨rfl, rfl⟩ := hk h0
    rw [if_pos h0]
    exact ⟨.inr (upsU_of_l (by omega) k2), .inr (upsU_of_l (by omega) k2)⟩
theorem square_lets {h : Int} (h1 : 1 ≤ h) {low left right : List Int} {k : Int} (hl : Lets h low) (hle : Lets h left) (hri : Lets h right) (k1 : 0 ≤ k) (k2 : k ≤ h) : Lets h (squareL low left right k) := by
  unfold squareL
  split
  · exact Lets.cons.mpr ⟨⟨k1, k2⟩, hl⟩
  split
  · exact hri
  split
  · exact hle
  · exact Lets.cons.mpr ⟨⟨Int.le_refl 0, by omega⟩, hl⟩
theorem sz_side {h : Int} (h1 : 1 ≤ h) {low x : List Int} (hl : Lets h low) (s : Side h low x) : x = low ∨ sz x = sz low + 1 := s.imp id fun q => (upsU_ok h1 hl q).2
/-- what the law's way back answers -/
theorem back_law [H_f_back_by P] {h : Int} (h1 : 1 ≤ h) {low left right : List Int} {k : Int} (hl : Lets h low) (sl : Side h low left) (sr : Side h low right) (hk : k ≠ 0 → left = low ∧ right = low) :
    P.call (n + 1) "back_by" [row left, row right, row (squareL low left right k)] = .ok (.val (.tup [row low, .int k])) [] := by
  have z1 := sz_side h1 hl sl
  have z2 := sz_side h1 hl sr
  have hz : sz (0 :: low) = 2 + sz low := by rw [sz_cons]; rfl
  have nc : ∀ a : Int, low ≠ a :: low := fun a z => by have := congrArg List.length z; simp at this
  unfold squareL
  by_cases h0 : k = 0
  · subst h0
    rw [if_neg (fun z => z rfl)]
    by_cases e1 : left = low
    · subst e1
      rw [if_pos rfl]
      by_cases e2 : left = right
      · subst e2
        exact back_by_l
      · rw [runf_back_by]
        simp! [f_back_by_body, e2]
    rw [if_neg e1]
    by_cases e2 : right = low
    · subst e2
      rw [if_pos rfl]
      exact back_by_l
    rw [if_neg e2, back_by_s, if_neg (fun z => ?_), if_neg (fun z => ?_)]
    · rw [z] at z2
      rcases z2 with z2 | z2
      · exact nc 0 z2.symm
      · omega
    · rw [z] at z1
      rcases z1 with z1 | z1
      · exact nc 0 z1.symm
      · omega
  · obtain ⟨rfl, rfl⟩ := hk h0
    rw [if_pos h0, back_by_s, if_neg (nc k), if_neg (nc k)]
theorem law_number_s [H_f_law_number P] {d : Draw} (hd : DrawOk d) {lo hi : Int} (h : lo ≤ hi) (h0 : -1000 ≤ lo) (h1 : hi ≤ 1000) : ∃ (x : D) (d' : Draw), DrawOk d' ∧ x.base = true ∧ (x.whole = false ∨ ∃ k, x = .int k ∧ (decide (lo ≤ k) && decide (k ≤ hi)) = false) ∧ P.call (n + 4) "_law_number" [drawD d, .int lo, .int hi] = .ok (.val x) [drawD d'] := by
  obtain ⟨x, d', hd, hx, e⟩ := law_pick_s (P := P) (n := n) hd (xs := [.non, .int (lo - 1), .int (hi + 1), .str "1", .bl true, tupE .int [lo], .lst [], .int (-100000000000000000000), .int 100000000000000000000]) (by simp) (by simp)
  refine ⟨x, d', hd, ?_, ?_, ?_⟩
  · simp at hx
    rcases hx with rfl | rfl | rfl | rfl | rfl | rfl | rfl | rfl | rfl <;> rfl
  · simp only [List.mem_cons, List.not_mem_nil, or_false] at hx
    rcases hx with rfl | rfl | rfl | rfl | rfl | rfl | rfl | rfl | rfl
    all_goals first
      | exact .inl rfl
      | (refine .inr ⟨_, rfl, ?_⟩; rw [Bool.and_eq_false_iff, decide_eq_false_iff_not, decide_eq_false_iff_not]; omega)
  rw [runf_law_number]
  simp! [f_law_number_body, inof_law_pick, parsf_law_pick, dflf_law_pick, e]
end Mini

/- QN13 -/
set_option Elab.async false
set_option linter.all false
set_option maxRecDepth 100000
set_option maxHeartbeats 0
namespace Mini
open PySem
theorem arr_square_0_hue_right_left_low_hues {w0 w1 w2 w3 w4 : Opd} : arrange (["hues", "low", "left", "right", "hue"] : List Str) ([] : List Opd) [] (["hue", "right", "left", "low", "hues"] : List Str) [w0, w1, w2, w3, w4] = some [w4, w3, w2, w1, w0] := by rfl

def f_law_right_k13_b1 : List S := [.ifs (.andE (.cmp .ne (.slot 7) (.slot 8)) (.cmp .notIn (.slot 7) (.call "_law_ups" [.slot 1, .slot 8] [] []))) [.ret (.lit (.bl false))] []]

def f_law_right_k13_body : List S := [.set 1 (.call "_law_hues" [.slot 0] [] []),
    .set 2 (.call "_law_row" [.slot 0, .slot 1, .lit (.int 24)] [] []),
    .set 3 (.op .add (.comp [11] (.sl 11) (.call "_law_ups" [.slot 1, .slot 2] [] []) [.cmp .lt (.call "_law_size" [.slot 11] [] []) (.lit (.int 25))] (.slot 11)) (.lst [false] [.slot 2])),
    .setP [4, 5] [.call "_law_pick" [.slot 0, .lst [false, false] [.slot 2, .call "_law_pick" [.slot 0, .slot 3] [] []]] [] [], .call "_law_pick" [.slot 0, .lst [false, false] [.slot 2, .call "_law_pick" [.slot 0, .slot 3] [] []]] [] []],
    .set 6 (.ite (.andE (.cmp .eq (.slot 4) (.slot 2)) (.cmp .eq (.slot 5) (.slot 2))) (.call "_law_take" [.slot 0, .op .add (.slot 1) (.lit (.int 1))] [] []) (.lit (.int 0))),
    .set 7 (.call "_law_square" [.slot 2, .slot 4, .slot 5, .slot 6] [] []),
    .ifs (.notE (.call "_law_says" [.lst [false, false] [.call "square" [.slot 1, .slot 2, .slot 4, .slot 5, .slot 6] [] [], .call "square" [] ["hue", "right", "left", "low", "hues"] [.slot 6, .slot 5, .slot 4, .slot 2, .slot 1]], .lst [false, false] [.slot 7, .slot 7]] [] [])) [.ret (.lit (.bl false))] [],
    .forS (.sl 8) (.lst [false, false] [.slot 4, .slot 5]) f_law_right_k13_b1,
    .ifs (.orE (.andE (.andE (.cmp .ne (.slot 4) (.slot 2)) (.cmp .ne (.slot 5) (.slot 2))) (.cmp .ne (.slot 7) (.op .add (.tup [false] [.lit (.int 0)]) (.slot 2)))) (.andE (.cmp .lt (.call "_law_size" [.slot 7] [] []) (.lit (.int 25))) (.notE (.call "_law_says" [.call "square_back" [.slot 1, .slot 4, .slot 5, .slot 7] [] [], .tup [false, false] [.slot 2, .slot 6]] [] [])))) [.ret (.lit (.bl false))] [],
    .setP [9, 10, 11] [.call "_law_no_hues" [.slot 0] [] [], .call "_law_no_row" [.slot 0, .slot 1] [] [], .call "_law_pick" [.slot 0, .slot 3] [] []],
    .setP [12, 13] [.call "_law_pick" [.slot 0, .lst [false, false, false, false] [.slot 10, .op .add (.tup [false] [.lit (.int 0)]) (.slot 11), .op .mul (.tup [false] [.lit (.int 1)]) (.lit (.int 25)), .call "_law_pick" [.slot 0, .op .add (.call "_law_downs" [.slot 1, .slot 2] [] []) (.lst [false] [.slot 10])] [] []]] [] [], .call "_law_number" [.slot 0, .lit (.int 0), .slot 1] [] []],
    .set 14 (.lst [false] [.bi (.isi (.cls "BadHues")) [.caught (.call "square" [.slot 9, .lit (.non), .lit (.non), .lit (.non), .lit (.non)] [] [])]]),
    .expr (.app 14 (.bi (.isi (.cls "BadLow")) [.caught (.call "square" [.slot 1, .call "_law_pick" [.slot 0, .lst [false, false] [.slot 10, .op .mul (.tup [false] [.lit (.int 1)]) (.lit (.int 25))]] [] [], .lit (.non), .lit (.non), .lit (.non)] [] [])])),
    .expr (.app 14 (.bi (.isi (.cls "BadLeft")) [.caught (.call "square" [.slot 1, .slot 2, .slot 12, .lit (.non), .lit (.non)] [] [])])),
    .expr (.app 14 (.bi (.isi (.cls "BadRight")) [.caught (.call "square" [.slot 1, .slot 2, .slot 4, .slot 12, .lit (.non)] [] [])])),
    .expr (.app 14 (.bi (.isi (.cls "BadHue")) [.caught (.call "square" [.slot 1, .slot 2, .slot 4, .slot 5, .slot 13] [] [])])),
    .expr (.app 14 (.orE (.cmp .eq (.slot 11) (.slot 2)) (.bi (.isi (.cls "BadHue")) [.caught (.call "square" [.slot 1, .slot 2, .slot 11, .slot 2, .lit (.int 1)] [] [])]))),
    .ret (.cmp .eq (.slot 14) (.op .mul (.lst [false] [.lit (.bl true)]) (.lit (.int 6))))]

def f_law_right_k13 : Fn where
  name := "_law_right"
  pars := ["draw"]
  dfl := []
  ino := [true]
  N := ["draw", "hues", "low", "ups", "left", "right", "hue", "due", "side", "bad", "wrong", "up", "far", "odd", "errors"]
  body := f_law_right_k13_body

class H_f_law_right_k13 (P : Prog) : Prop extends H_f_law_hues P, H_f_law_row P, H_f_law_square P, H_f_law_pick P, H_f_law_take P, H_f_law_says P, H_f_law_no_hues P, H_f_law_no_row P, H_f_law_number P, H_f_law_ups P, H_f_square P, H_f_law_size P, H_f_square_back P, H_f_law_downs P where
  findf_law_right_k13 : P.find "_law_right" = some f_law_right_k13
  subf_law_right_k13_BadHue : P.subs.contains (("BadHue" : Str), ("BadHue" : Str)) = true
  subf_law_right_k13_BadHues : P.subs.contains (("BadHues" : Str), ("BadHues" : Str)) = true
  subf_law_right_k13_BadLeft : P.subs.contains (("BadLeft" : Str), ("BadLeft" : Str)) = true
  subf_law_right_k13_BadLow : P.subs.contains (("BadLow" : Str), ("BadLow" : Str)) = true
  subf_law_right_k13_BadRight : P.subs.contains (("BadRight" : Str), ("BadRight" : Str)) = true
theorem inof_law_right_k13 {P : Prog} [h : H_f_law_right_k13 P] {c : Str → List D → CRes} : (P.ifc c).ino "_law_right" = [true] := ifc_ino h.findf_law_right_k13
theorem parsf_law_right_k13 {P : Prog} [h : H_f_law_right_k13 P] {c : Str → List D → CRes} : (P.ifc c).pars "_law_right" = (["draw"] : List Str) := ifc_pars h.findf_law_right_k13
theorem dflf_law_right_k13 {P : Prog} [h : H_f_law_right_k13 P] {c : Str → List D → CRes} : (P.ifc c).dfl "_law_right" = ([] : List D) := ifc_dfl h.findf_law_right_k13
theorem runf_law_right_k13 {P : Prog} [h : H_f_law_right_k13 P] {n : Nat} {a0 : D} : P.call (n + 1) "_law_right" [a0] = finF [true] (denB (P.ifc (P.call n)) f_law_right_k13_body [.ref a0, .no, .no, .no, .no, .no, .no, .no, .no, .no, .no, .no, .no, .no, .no]) := call_run h.findf_law_right_k13 rfl

def f_law_k13_b1 : List S := [.ifs (.notE (.call "_law_right" [.slot 1] [] [])) [.ret (.lit (.bl false))] []]

def f_law_k13_body : List S := [.set 1 (.call "_law_begun" [.slot 0] [] []),
    .forS (.sl 2) (.range [.op .add (.lit (.int 6)) (.bi .min [.bi .len [.slot 0], .lit (.int 14)])]) f_law_k13_b1,
    .set 3 (.lst [false, false, false, false, false, false, false] [.cmp .eq (.call "square" [.lit (.int 1), .op .mul (.tup [false] [.lit (.int 0)]) (.lit (.int 12)), .op .mul (.tup [false] [.lit (.int 0)]) (.lit (.int 12)), .op .mul (.tup [false] [.lit (.int 0)]) (.lit (.int 12)), .lit (.int 1)] [] []) (.op .add (.tup [false] [.lit (.int 1)]) (.op .mul (.tup [false] [.lit (.int 0)]) (.lit (.int 12)))), .call "square" [.lit (.int 2), .tup [false] [.lit (.int 1)], .tup [false] [.lit (.int 1)], .tup [false] [.lit (.int 1)], .lit (.int 2)] [] [], .call "square" [.lit (.int 1), .tup [false] [.lit (.int 1)], .tup [false] [.lit (.int 0)], .tup [false, false] [.lit (.int 1), .lit (.int 1)], .lit (.int 0)] [] [], .call "square" [.lit (.int 1), .tup [false] [.lit (.int 1)], .tup [false] [.lit (.int 0)], .tup [false] [.lit (.int 0)], .lit (.int 0)] [] [], .call "square" [.lit (.int 1), .tup [false] [.lit (.int 1)], .tup [false] [.lit (.int 0)], .tup [false] [.lit (.int 1)], .lit (.int 0)] [] [], .call "square" [.lit (.int 1), .tup [false] [.lit (.int 1)], .tup [false] [.lit (.int 1)], .tup [false, false] [.lit (.int 1), .lit (.int 1)], .lit (.int 0)] [] [], .call "square" [.lit (.int 1), .tup [] [], .tup [] [], .tup [] [], .lit (.int 0)] [] []]),
    .ret (.call "_law_says" [.slot 3, .lst [false, false, false, false, false, false, false] [.lit (.bl true), .tup [false, false] [.lit (.int 2), .lit (.int 1)], .tup [false, false] [.lit (.int 0), .lit (.int 1)], .tup [false, false] [.lit (.int 0), .lit (.int 1)], .tup [false] [.lit (.int 0)], .tup [false, false] [.lit (.int 1), .lit (.int 1)], .tup [] []]] [] [])]

def f_law_k13 : Fn where
  name := "law"
  pars := ["script"]
  dfl := []
  ino := [false]
  N := ["script", "draw", "lap", "told"]
  body := f_law_k13_body

class H_f_law_k13 (P : Prog) : Prop extends H_f_law_begun P, H_f_law_says P, H_f_square P, H_f_law_right_k13 P where
  findf_law_k13 : P.find "law" = some f_law_k13
theorem inof_law_k13 {P : Prog} [h : H_f_law_k13 P] {c : Str → List D → CRes} : (P.ifc c).ino "law" = [false] := ifc_ino h.findf_law_k13
theorem parsf_law_k13 {P : Prog} [h : H_f_law_k13 P] {c : Str → List D → CRes} : (P.ifc c).pars "law" = (["script"] : List Str) := ifc_pars h.findf_law_k13
theorem dflf_law_k13 {P : Prog} [h : H_f_law_k13 P] {c : Str → List D → CRes} : (P.ifc c).dfl "law" = ([] : List D) := ifc_dfl h.findf_law_k13
theorem runf_law_k13 {P : Prog} [h : H_f_law_k13 P] {n : Nat} {a0 : D} : P.call (n + 1) "law" [a0] = finF [false] (denB (P.ifc (P.call n)) f_law_k13_body [.val a0, .no, .no, .no]) := call_run h.findf_law_k13 rfl

end Mini

/- KP13 -/
set_option Elab.async false
set_option linter.all false
set_option maxRecDepth 100000
set_option maxHeartbeats 0
namespace K13
open PySem Mini
def pr : Prog where
  fns := [f_is_whole, f_is_hues, f_need_hues, f_size_of, f_is_row_of, f_leading, f_ups_by, f_downs_by, f_square_by, f_back_by, f_is_side, f_square, f_square_back, f_law_begun, f_law_mixed, f_law_take, f_law_pick, f_law_kinds, f_law_says, f_law_hues, f_law_no_hues, f_law_number, f_law_size, f_law_row, f_law_downs, f_law_ups, f_law_square, f_law_no_row, f_law_right_k13, f_law_k13]
  globs := [(("MOST_HUES" : Str), D.int 3), (("MOST_SIZE" : Str), D.int 24)]
  subs := [(("StepError" : Str), ("StepError" : Str)), (("BadHue" : Str), ("BadHue" : Str)), (("BadHue" : Str), ("StepError" : Str)), (("BadHues" : Str), ("BadHues" : Str)), (("BadHues" : Str), ("StepError" : Str)), (("BadLeft" : Str), ("BadLeft" : Str)), (("BadLeft" : Str), ("StepError" : Str)), (("BadLow" : Str), ("BadLow" : Str)), (("BadLow" : Str), ("StepError" : Str)), (("BadRight" : Str), ("BadRight" : Str)), (("BadRight" : Str), ("StepError" : Str)), (("BadTop" : Str), ("BadTop" : Str)), (("BadTop" : Str), ("StepError" : Str))]
  fuel := 1000000000000

instance if_is_whole : H_f_is_whole pr where
  findf_is_whole := by rfl

instance if_is_hues : H_f_is_hues pr where
  findf_is_hues := by rfl
  globf_is_hues_MOST_HUES := by rfl

instance if_need_hues : H_f_need_hues pr where
  findf_need_hues := by rfl

instance if_size_of : H_f_size_of pr where
  findf_size_of := by rfl

instance if_is_row_of : H_f_is_row_of pr where
  findf_is_row_of := by rfl
  globf_is_row_of_MOST_SIZE := by rfl

instance if_leading : H_f_leading pr where
  findf_leading := by rfl

instance if_ups_by : H_f_ups_by pr where
  findf_ups_by := by rfl

instance if_downs_by : H_f_downs_by pr where
  findf_downs_by := by rfl

instance if_square_by : H_f_square_by pr where
  findf_square_by := by rfl

instance if_back_by : H_f_back_by pr where
  findf_back_by := by rfl

instance if_is_side : H_f_is_side pr where
  findf_is_side := by rfl

instance if_square : H_f_square pr where
  findf_square := by rfl

instance if_square_back : H_f_square_back pr where
  findf_square_back := by rfl

instance if_law_begun : H_f_law_begun pr where
  findf_law_begun := by rfl

instance if_law_mixed : H_f_law_mixed pr where
  findf_law_mixed := by rfl

instance if_law_take : H_f_law_take pr where
  findf_law_take := by rfl
  fuelf_law_take := by show 1000000000 ≤ 1000000000000; decide

instance if_law_pick : H_f_law_pick pr where
  findf_law_pick := by rfl

instance if_law_kinds : H_f_law_kinds pr where
  findf_law_kinds := by rfl
  fuelf_law_kinds := by show 1000000000 ≤ 1000000000000; decide

instance if_law_says : H_f_law_says pr where
  findf_law_says := by rfl

instance if_law_hues : H_f_law_hues pr where
  findf_law_hues := by rfl

instance if_law_no_hues : H_f_law_no_hues pr where
  findf_law_no_hues := by rfl

instance if_law_number : H_f_law_number pr where
  findf_law_number := by rfl

instance if_law_size : H_f_law_size pr where
  findf_law_size := by rfl

instance if_law_row : H_f_law_row pr where
  findf_law_row := by rfl

instance if_law_ups : H_f_law_ups pr where
  findf_law_ups := by rfl

instance if_law_downs : H_f_law_downs pr where
  findf_law_downs := by rfl

instance if_law_square : H_f_law_square pr where
  findf_law_square := by rfl

instance if_law_no_row : H_f_law_no_row pr where
  findf_law_no_row := by rfl

instance if_law_right_k13 : H_f_law_right_k13 pr where
  findf_law_right_k13 := by rfl
  subf_law_right_k13_BadHue := by rfl
  subf_law_right_k13_BadHues := by rfl
  subf_law_right_k13_BadLeft := by rfl
  subf_law_right_k13_BadLow := by rfl
  subf_law_right_k13_BadRight := by rfl

instance if_law_k13 : H_f_law_k13 pr where
  findf_law_k13 := by rfl

end K13

/- Q13 -/
set_option Elab.async false
set_option linter.all false
set_option maxRecDepth 100000
set_option maxHeartbeats 4000000
namespace K13
open PySem Mini
variable {n : Nat}
theorem nodesL_ints : ∀ r : List Int, D.nodesL (r.map D.int) = r.length
  | [] => rfl
  | a :: r => by
    show 1 + D.nodesL (r.map D.int) = _
    rw [nodesL_ints r, List.length_cons]
    omega
theorem nodes_row {r : List Int} : (row r).nodes = 1 + r.length := by
  show 1 + D.nodesL (r.map D.int) = _
  rw [nodesL_ints]
theorem row_tame {r : List Int} : (row r).plain = true ∧ (row r).py.canLay0 = true ∧ (row r).py.depth ≤ 39 :=
  ⟨Cod.plain r, Cod.lay r, Nat.le_trans (Cod.dep (e := row) r) (by decide)⟩
theorem tameT_of {xs : List D} (h : ∀ x ∈ xs, x.plain = true ∧ x.py.canLay0 = true ∧ x.py.depth ≤ 39) : (D.tup xs).tame = true := tameL_of h
theorem says_rr {a b : List Int} (ha : a.length ≤ 1000) (hb : b.length ≤ 1000) : pr.call (n + 2) "_law_says" [.lst [row a, row b], .lst [row a, row b]] = .ok (.val (.bl true)) [] := by
  refine law_says_s (tameL_of fun x hx => ?_) ?_
  · simp only [List.mem_cons, List.not_mem_nil, or_false] at hx
    rcases hx with rfl | rfl <;> exact row_tame
  · show 1 + ((row a).nodes + ((row b).nodes + 0)) ≤ _
    rw [nodes_row, nodes_row]
    omega
theorem says_ri {a : List Int} {k : Int} (ha : a.length ≤ 1000) : pr.call (n + 2) "_law_says" [.tup [row a, .int k], .tup [row a, .int k]] = .ok (.val (.bl true)) [] := by
  refine law_says_s (tameT_of fun x hx => ?_) ?_
  · simp only [List.mem_cons, List.not_mem_nil, or_false] at hx
    rcases hx with rfl | rfl
    · exact row_tame
    · exact ⟨rfl, rfl, by show 0 ≤ 39; omega⟩
  · show 1 + ((row a).nodes + (1 + 0)) ≤ _
    rw [nodes_row]
    omega
theorem noSide_up {h : Int} (h1 : 1 ≤ h) {low up : List Int} (hl : Lets h low) (hu2 : up.length ≤ 1000) (hu : sz low ≤ sz up) : noSide h low (row (0 :: up)) := by
  have hz : sz (0 :: up) = 2 + sz up := by rw [sz_cons]; rfl
  refine ⟨row_look (by simp; omega), ?_⟩
  by_cases q : RowOk h (0 :: up)
  · refine .inr ⟨_, rfl, q, fun s => ?_⟩
    rcases sz_side h1 hl s with z | z
    · rw [z] at hz; omega
    · omega
  · exact .inl (by rw [isRow_row, decide_eq_false q])
theorem noSide_down {h : Int} (h1 : 1 ≤ h) {low z : List Int} (hl : RowOk h low) (hz : z ∈ downsU h low) : noSide h low (row z) := by
  have q := downsU_ok h1 hl.1 hz
  have lz := sz_len z
  have := hl.2
  refine ⟨row_look (by omega), .inr ⟨_, rfl, ⟨q.1, by omega⟩, fun s => ?_⟩⟩
  rcases sz_side h1 hl.1 s with e | e
  · rw [e] at q; omega
  · omega
theorem no25 {h : Int} : look2 (row (List.replicate 25 1)) = true ∧ isRowD h (row (List.replicate 25 1)) = false := by
  refine ⟨by decide +kernel, ?_⟩
  rw [isRow_row, decide_eq_false]
  rintro ⟨_, q⟩
  exact absurd q (by decide)
theorem ct6 : cmp CmpO.eq (D.lst [D.bl true, D.bl true, D.bl true, D.bl true, D.bl true, D.bl true]) (D.lst (List.replicate 6 (D.bl true))) = some true := by decide +kernel
theorem law_right_s {d : Draw} (hd : DrawOk d) : ∃ d' : Draw, DrawOk d' ∧ pr.call (n + 7) "_law_right" [drawD d] = .ok (.val (.bl true)) [drawD d'] := by
  obtain ⟨h, d1, hd1, h1, h3, e1⟩ := law_hues_s (P := pr) (n := n + 2) hd
  obtain ⟨low, d2, hd2, hl, sl, e2⟩ := law_row_s (P := pr) (n := n + 3) hd1 h1 h3 (m := 24) (by omega) (by omega)
  have ol : RowOk h low := ⟨hl, sl⟩
  have ll := sz_len low
  have e3 := law_ups_s (P := pr) (n := n + 5) (r := low) h1 h3 (by omega)
  have hub := upsU_bound h3 (r := low) (by omega)
  have hupl : (ups h low).length ≤ 10000 := by unfold ups; rw [srt_len]; exact hub
  -- the list of ups
  obtain ⟨us, hus⟩ : ∃ us, us = (ups h low).filter (fun x => decide (sz x < 25)) ++ [low] := ⟨_, rfl⟩
  have usl : us.length ≤ 10001 := by
    rw [hus, List.length_append]
    have := List.length_filter_le (fun x => decide (sz x < 25)) (ups h low)
    simp; omega
  have usn : us ≠ [] := by rw [hus]; simp
  have usm : ∀ x ∈ us, RowOk h x ∧ Side h low x := by
    intro x hx
    rw [hus, List.mem_append, List.mem_filter, List.mem_singleton] at hx
    rcases hx with ⟨hx, hs⟩ | rfl
    · have q := upsU_ok h1 hl (mem_ups.mp hx)
      exact ⟨⟨q.1, by have := of_decide_eq_true hs; omega⟩, .inr (mem_ups.mp hx)⟩
    · exact ⟨ol, .inl rfl⟩
  have sidep : ∀ {a : List Int}, RowOk h a ∧ Side h low a → ∀ {x : List Int}, x ∈ [low, a] → RowOk h x ∧ Side h low x := by
    intro a ha x hx
    simp only [List.mem_cons, List.not_mem_nil, or_false] at hx
    rcases hx with rfl | rfl
    · exact ⟨ol, .inl rfl⟩
    · exact ha
  obtain ⟨a, d3, hd3, ha, e4⟩ := pick_rows (P := pr) (n := n + 3) hd2 usn (by omega)
  obtain ⟨left, d4, hd4, hle, e5⟩ := pick_rows (P := pr) (n := n + 3) hd3 (l := [low, a]) (by simp) (by simp)
  obtain ⟨b, d5, hd5, hb, e6⟩ := pick_rows (P := pr) (n := n + 3) hd4 usn (by omega)
  obtain ⟨right, d6, hd6, hri, e7⟩ := pick_rows (P := pr) (n := n + 3) hd5 (l := [low, b]) (by simp) (by simp)
  obtain ⟨ole, sle⟩ := sidep (usm a ha) hle
  obtain ⟨ori, sri⟩ := sidep (usm b hb) hri
  simp only [List.map_cons, List.map_nil] at e5 e7
  -- the hue
  obtain ⟨k, d7, hd7, k1, k2, hk, key⟩ : ∃ (k : Int) (d7 : Draw), DrawOk d7 ∧ 0 ≤ k ∧ k ≤ h ∧ (k ≠ 0 → left = low ∧ right = low) ∧
      (((decide (left = low) && decide (right = low)) = true ∧ pr.call (n + 6) "_law_take" [drawD d6, .int (h + 1)] = .ok (.val (.int k)) [drawD d7]) ∨ ((decide (left = low) && decide (right = low)) = false ∧ k = 0 ∧ d7 = d6)) := by
    by_cases hW : left = low ∧ right = low
    · obtain ⟨k, d7, hd7, k1, k2, e⟩ := law_take_s (P := pr) (n := n + 4) hd6 (a := h + 1) (by omega)
      exact ⟨k, d7, hd7, k1, by have := k2 (by omega); omega, fun _ => hW, .inl ⟨by rw [decide_eq_true hW.1, decide_eq_true hW.2]; rfl, e⟩⟩
    · refine ⟨0, d6, hd6, Int.le_refl 0, by omega, fun z => absurd rfl z, .inr ⟨?_, rfl, rfl⟩⟩
      rw [Bool.eq_false_iff]
      intro z
      rw [Bool.and_eq_true, decide_eq_true_eq, decide_eq_true_eq] at z
      exact hW z
  obtain ⟨due, hdue⟩ : ∃ due, due = squareL low left right k := ⟨_, rfl⟩
  have e8 := law_square_s (P := pr) (n := n + 5) (low := low) (left := left) (right := right) (hue := k) (by omega)
  have e9 := square_s (P := pr) (n := n + 2) h1 h3 ol ole ori sle sri k1 k2 hk
  rw [← hdue] at e8 e9
  have ov := square_over hl sle sri k1 k2 hk
  rw [← hdue] at ov
  have hdl : Lets h due := by rw [hdue]; exact square_lets h1 hl ole.1 ori.1 k1 k2
  have hds : sz due ≤ 26 := by
    rcases ov.1 with z | z
    · rw [z]; have := ole.2; omega
    · have := (upsU_ok h1 ole.1 z).2; have := ole.2; omega
  have lend := sz_len due
  have e10 := says_rr (n := n + 4) (a := due) (b := due) (by omega) (by omega)
  have e11 := law_size_s (P := pr) (n := n + 5) (r := due) (by omega)
  have e12 := says_ri (n := n + 4) (a := low) (k := k) (by omega)
  -- the loop over the sides
  obtain ⟨ρ', c1, s8, rfl, q8⟩ := loop_all (st := turnS (pr.ifc (pr.call (n + 6))) (.sl 8) f_law_right_k13_b1)
    (fun ρ => ∃ s8 : Slot, ρ = [.ref (drawD d7), .val (.int h), .val (row low), .val (.lst (us.map row)), .val (row left), .val (row right), .val (.int k), .val (row due), s8, .no, .no, .no, .no, .no, .no] ∧ okS s8)
    [row left, row right]
    [.ref (drawD d7), .val (.int h), .val (row low), .val (.lst (us.map row)), .val (row left), .val (row right), .val (.int k), .val (row due), .no, .no, .no, .no, .no, .no, .no] ⟨_, rfl, okS_no⟩ (by
      rintro x hx _ ⟨s8, rfl, q8⟩
      have lx : ∃ c, x = row c ∧ RowOk h c ∧ (due = c ∨ due ∈ upsU h c) := by
        simp only [List.mem_cons, List.not_mem_nil, or_false] at hx
        rcases hx with rfl | rfl
        · exact ⟨_, rfl, ole, ov.1⟩
        · exact ⟨_, rfl, ori, ov.2⟩
      obtain ⟨c, rfl, hc, hcd⟩ := lx
      have a1 := law_ups_s (P := pr) (n := n + 5) (r := c) h1 h3 (by have := hc.len; omega)
      rcases hcd with hcd | hcd
      · simp! [f_law_right_k13_body, inof_law_hues, parsf_law_hues, dflf_law_hues, inof_law_row, parsf_law_row, dflf_law_row, inof_law_square, parsf_law_square, dflf_law_square, inof_law_pick, parsf_law_pick, dflf_law_pick, inof_law_take, parsf_law_take, dflf_law_take, inof_law_says, parsf_law_says, dflf_law_says, inof_law_no_hues, parsf_law_no_hues, dflf_law_no_hues, inof_law_no_row, parsf_law_no_row, dflf_law_no_row, inof_law_number, parsf_law_number, dflf_law_number, inof_law_ups, parsf_law_ups, dflf_law_ups, inof_square, parsf_square, dflf_square, inof_law_size, parsf_law_size, dflf_law_size, inof_square_back, parsf_square_back, dflf_square_back, inof_law_downs, parsf_law_downs, dflf_law_downs, arr_square_0_hue_right_left_low_hues, f_law_right_k13_b1, a1, hcd]
        exact ⟨_, rfl, okS_val⟩
      · have hm := memB_t (mem_ups.mpr hcd)
        simp! [f_law_right_k13_body, inof_law_hues, parsf_law_hues, dflf_law_hues, inof_law_row, parsf_law_row, dflf_law_row, inof_law_square, parsf_law_square, dflf_law_square, inof_law_pick, parsf_law_pick, dflf_law_pick, inof_law_take, parsf_law_take, dflf_law_take, inof_law_says, parsf_law_says, dflf_law_says, inof_law_no_hues, parsf_law_no_hues, dflf_law_no_hues, inof_law_no_row, parsf_law_no_row, dflf_law_no_row, inof_law_number, parsf_law_number, dflf_law_number, inof_law_ups, parsf_law_ups, dflf_law_ups, inof_square, parsf_square, dflf_square, inof_law_size, parsf_law_size, dflf_law_size, inof_square_back, parsf_square_back, dflf_square_back, inof_law_downs, parsf_law_downs, dflf_law_downs, arr_square_0_hue_right_left_low_hues, f_law_right_k13_b1, a1, hm]
        exact ⟨_, rfl, okS_val⟩)
  -- the last check of the law
  have hboth : (decide (left ≠ low) && decide (right ≠ low) && decide (due ≠ 0 :: low)) = false := by
    by_cases z1 : left = low
    · simp [z1]
    by_cases z2 : right = low
    · simp [z2]
    have hk0 : k = 0 := by
      by_cases hk0 : k = 0
      · exact hk0
      · exact absurd (hk hk0).1 z1
    have : due = 0 :: low := by
      rw [hdue, squareL, hk0, if_neg (fun z => z rfl), if_neg z1, if_neg z2]
    simp [this]
  have hback : sz due < 25 → pr.call (n + 6) "square_back" [.int h, row left, row right, row due] = .ok (.val (.tup [row low, .int k])) [] := by
    intro hs
    have od : RowOk h due := ⟨hdl, by omega⟩
    refine square_back_s (P := pr) (n := n + 2) (by rw [hdue]; exact back_law h1 hl sle sri hk) h1 h3 ole ori od ?_ ?_
    · exact ov.1.imp Eq.symm fun z => up_down ole.1 z
    · exact ov.2.imp Eq.symm fun z => up_down ori.1 z
  -- the faults
  obtain ⟨bad, d8, hd8, lb, hbad, g1⟩ := law_no_hues_s (P := pr) (n := n + 2) hd7
  obtain ⟨wr, d9, hd9, lw, hwr, g2⟩ := law_no_row_s (P := pr) (n := n + 2) hd8 h1
  obtain ⟨up, d10, hd10, hup, g3⟩ := pick_rows (P := pr) (n := n + 3) hd9 usn (by omega)
  obtain ⟨oup, sup⟩ := usm up hup
  have hupz : sz low ≤ sz up := by rcases sz_side h1 hl sup with z | z; · rw [z]; exact Int.le_refl _
                                   · omega
  obtain ⟨rv, hrv, g4⟩ := law_downs_s (P := pr) (n := n + 4) (r := low) h1 h3 (by omega)
  have hdb := downsU_bound h3 (r := low) (by omega)
  have hdnl : (downs h low).length ≤ 10000 := by unfold downs; rw [srt_len]; exact hdb
  obtain ⟨dn, d11, hd11, hdn, g5⟩ := law_pick_s (P := pr) (n := n + 3) hd10 (xs := (downs h low).map row ++ [wr]) (by simp) (by simp; omega)
  have hnw : noSide h low wr := ⟨lw, .inl hwr⟩
  have hdn' : noSide h low dn := by
    rw [List.mem_append, List.mem_singleton, List.mem_map] at hdn
    rcases hdn with ⟨z, hz, rfl⟩ | rfl
    · exact noSide_down h1 ol (mem_downs.mp hz)
    · exact hnw
  obtain ⟨far, d12, hd12, hfar, g6⟩ := law_pick_s (P := pr) (n := n + 3) hd11 (xs := [wr, row (0 :: up), row (List.replicate 25 1), dn]) (by simp) (by simp)
  have hfar' : noSide h low far := by
    simp only [List.mem_cons, List.not_mem_nil, or_false] at hfar
    rcases hfar with rfl | rfl | rfl | rfl
    · exact hnw
    · exact noSide_up h1 hl (by have := oup.len; omega) hupz
    · exact ⟨(no25 (h := h)).1, .inl no25.2⟩
    · exact hdn'
  obtain ⟨odd, d13, hd13, lo, hodd, g7⟩ := law_number_s (P := pr) (n := n + 2) hd12 (lo := 0) (hi := h) (by omega) (by omega) (by omega)
  obtain ⟨wl, d14, hd14, hwl, g8⟩ := law_pick_s (P := pr) (n := n + 3) hd13 (xs := [wr, row (List.replicate 25 1)]) (by simp) (by simp)
  have hwl' : look2 wl = true ∧ isRowD h wl = false := by
    simp only [List.mem_cons, List.not_mem_nil, or_false] at hwl
    rcases hwl with rfl | rfl
    · exact ⟨lw, hwr⟩
    · exact no25
  have f1 := square_badH (P := pr) (n := n + 2) (a := .non) (b := .non) (c := .non) (d := .non) lb hbad
  have f2 := square_badLow (P := pr) (n := n + 2) (b := .non) (c := .non) (d := .non) h1 h3 hwl'.1 hwl'.2
  have f3 := square_badLeft (P := pr) (n := n + 2) (c := .non) (d := .non) h1 h3 ol hfar'
  have f4 := square_badRight (P := pr) (n := n + 2) (d := .non) h1 h3 ol ole sle hfar'
  have f5 := square_badHue (P := pr) (n := n + 2) h1 h3 ol ole ori sle sri (d := odd) ⟨lo, hodd.imp id fun ⟨k, q1, q2⟩ => ⟨k, q1, .inl q2⟩⟩
  have f6 : up ≠ low → pr.call (n + 6) "square" [.int h, row low, row up, row low, .int 1] = .ex "BadHue" [] [] := fun z => square_badHue (P := pr) (n := n + 2) h1 h3 ol oup ol sup (.inl rfl) ⟨rfl, .inr ⟨1, rfl, .inr ⟨rfl, fun q => z q.1⟩⟩⟩
  refine ⟨d14, hd14, ?_⟩
  rw [runf_law_right_k13]
  simp! [f_law_right_k13_body, inof_law_hues, parsf_law_hues, dflf_law_hues, inof_law_row, parsf_law_row, dflf_law_row, inof_law_square, parsf_law_square, dflf_law_square, inof_law_pick, parsf_law_pick, dflf_law_pick, inof_law_take, parsf_law_take, dflf_law_take, inof_law_says, parsf_law_says, dflf_law_says, inof_law_no_hues, parsf_law_no_hues, dflf_law_no_hues, inof_law_no_row, parsf_law_no_row, dflf_law_no_row, inof_law_number, parsf_law_number, dflf_law_number, inof_law_ups, parsf_law_ups, dflf_law_ups, inof_square, parsf_square, dflf_square, inof_law_size, parsf_law_size, dflf_law_size, inof_square_back, parsf_square_back, dflf_square_back, inof_law_downs, parsf_law_downs, dflf_law_downs, arr_square_0_hue_right_left_low_hues, e1, e2, e3]
  rw [kComp_filter (e' := row) (fun x => decide (sz x < 25)) id (by rfl) (fun x hx => by
    have q := (upsU_ok h1 hl (mem_ups.mp hx)).2
    have lx := sz_len x
    have a1 := law_size_s (P := pr) (n := n + 5) (r := x) (by omega)
    simp! [f_law_right_k13_body, inof_law_hues, parsf_law_hues, dflf_law_hues, inof_law_row, parsf_law_row, dflf_law_row, inof_law_square, parsf_law_square, dflf_law_square, inof_law_pick, parsf_law_pick, dflf_law_pick, inof_law_take, parsf_law_take, dflf_law_take, inof_law_says, parsf_law_says, dflf_law_says, inof_law_no_hues, parsf_law_no_hues, dflf_law_no_hues, inof_law_no_row, parsf_law_no_row, dflf_law_no_row, inof_law_number, parsf_law_number, dflf_law_number, inof_law_ups, parsf_law_ups, dflf_law_ups, inof_square, parsf_square, dflf_square, inof_law_size, parsf_law_size, dflf_law_size, inof_square_back, parsf_square_back, dflf_square_back, inof_law_downs, parsf_law_downs, dflf_law_downs, arr_square_0_hue_right_left_low_hues, a1]
    by_cases hx25 : sz x < 25 <;> simp! [hx25, id_eq]) (by omega)]
  have hadd : op2 .add (.lst (List.map row (List.filter (fun x => decide (sz x < 25)) (ups h low)))) (.lst (List.map (tupE D.int) [low])) = some (.own (.lst (us.map row))) := by
    rw [op_addL (by rw [List.length_map, List.length_map]; have := List.length_filter_le (fun x => decide (sz x < 25)) (ups h low); simp; omega), hus, List.map_append]
  have hadd2 : op2 .add (.lst (List.map row (downs h low))) (.lst [wr]) = some (.own (.lst ((downs h low).map row ++ [wr]))) := op_addL (by rw [List.length_map]; simp; omega)
  have e5' : pr.call (n + 3 + 3) "_law_pick" [drawD d3, .lst (List.map (tupE D.int) [low, a])] = .ok (.val (row left)) [drawD d4] := e5
  have e7' : pr.call (n + 3 + 3) "_law_pick" [drawD d5, .lst (List.map (tupE D.int) [low, b])] = .ok (.val (row right)) [drawD d6] := e7
  have e10' : pr.call (n + 4 + 2) "_law_says" [.lst (List.map (tupE D.int) [due, due]), .lst (List.map (tupE D.int) [due, due])] = .ok (.val (.bl true)) [] := e10
  have lup := oup.len
  have hboth' : (!decide (left = low) && !decide (right = low) && !decide (due = 0 :: low)) = false := by
    simpa only [ne_eq, decide_not] using hboth
  rcases key with ⟨kW, e13⟩ | ⟨kW, rfl, rfl⟩
  · simp! [f_law_right_k13_body, inof_law_hues, parsf_law_hues, dflf_law_hues, inof_law_row, parsf_law_row, dflf_law_row, inof_law_square, parsf_law_square, dflf_law_square, inof_law_pick, parsf_law_pick, dflf_law_pick, inof_law_take, parsf_law_take, dflf_law_take, inof_law_says, parsf_law_says, dflf_law_says, inof_law_no_hues, parsf_law_no_hues, dflf_law_no_hues, inof_law_no_row, parsf_law_no_row, dflf_law_no_row, inof_law_number, parsf_law_number, dflf_law_number, inof_law_ups, parsf_law_ups, dflf_law_ups, inof_square, parsf_square, dflf_square, inof_law_size, parsf_law_size, dflf_law_size, inof_square_back, parsf_square_back, dflf_square_back, inof_law_downs, parsf_law_downs, dflf_law_downs, arr_square_0_hue_right_left_low_hues, kIte_t, kIte_f, List.map_id, hadd, e4, e5, e5', e6, e7, e7', kW, e13, e8, e9, e10, e10', -kIte_r]
    rw [c1]
    by_cases hs : sz due < 25
    · have hb2 := hback hs
      by_cases hul : up = low
      · subst hul
        simp! [f_law_right_k13_body, inof_law_hues, parsf_law_hues, dflf_law_hues, inof_law_row, parsf_law_row, dflf_law_row, inof_law_square, parsf_law_square, dflf_law_square, inof_law_pick, parsf_law_pick, dflf_law_pick, inof_law_take, parsf_law_take, dflf_law_take, inof_law_says, parsf_law_says, dflf_law_says, inof_law_no_hues, parsf_law_no_hues, dflf_law_no_hues, inof_law_no_row, parsf_law_no_row, dflf_law_no_row, inof_law_number, parsf_law_number, dflf_law_number, inof_law_ups, parsf_law_ups, dflf_law_ups, inof_square, parsf_square, dflf_square, inof_law_size, parsf_law_size, dflf_law_size, inof_square_back, parsf_square_back, dflf_square_back, inof_law_downs, parsf_law_downs, dflf_law_downs, arr_square_0_hue_right_left_low_hues, hboth', hs, e11, hb2, e12, g1, g2, g3, g4, hrv, hadd2, g5, g6, g7, g8, ct6, f1, f2, f3, f4, f5]
      · have f7 := f6 hul
        simp! [f_law_right_k13_body, inof_law_hues, parsf_law_hues, dflf_law_hues, inof_law_row, parsf_law_row, dflf_law_row, inof_law_square, parsf_law_square, dflf_law_square, inof_law_pick, parsf_law_pick, dflf_law_pick, inof_law_take, parsf_law_take, dflf_law_take, inof_law_says, parsf_law_says, dflf_law_says, inof_law_no_hues, parsf_law_no_hues, dflf_law_no_hues, inof_law_no_row, parsf_law_no_row, dflf_law_no_row, inof_law_number, parsf_law_number, dflf_law_number, inof_law_ups, parsf_law_ups, dflf_law_ups, inof_square, parsf_square, dflf_square, inof_law_size, parsf_law_size, dflf_law_size, inof_square_back, parsf_square_back, dflf_square_back, inof_law_downs, parsf_law_downs, dflf_law_downs, arr_square_0_hue_right_left_low_hues, hboth', hs, e11, hb2, e12, g1, g2, g3, g4, hrv, hadd2, g5, g6, g7, g8, ct6, f1, f2, f3, f4, f5, hul, f7]
    · by_cases hul : up = low
      · subst hul
        simp! [f_law_right_k13_body, inof_law_hues, parsf_law_hues, dflf_law_hues, inof_law_row, parsf_law_row, dflf_law_row, inof_law_square, parsf_law_square, dflf_law_square, inof_law_pick, parsf_law_pick, dflf_law_pick, inof_law_take, parsf_law_take, dflf_law_take, inof_law_says, parsf_law_says, dflf_law_says, inof_law_no_hues, parsf_law_no_hues, dflf_law_no_hues, inof_law_no_row, parsf_law_no_row, dflf_law_no_row, inof_law_number, parsf_law_number, dflf_law_number, inof_law_ups, parsf_law_ups, dflf_law_ups, inof_square, parsf_square, dflf_square, inof_law_size, parsf_law_size, dflf_law_size, inof_square_back, parsf_square_back, dflf_square_back, inof_law_downs, parsf_law_downs, dflf_law_downs, arr_square_0_hue_right_left_low_hues, hboth', hs, e11, g1, g2, g3, g4, hrv, hadd2, g5, g6, g7, g8, ct6, f1, f2, f3, f4, f5]
      · have f7 := f6 hul
        simp! [f_law_right_k13_body, inof_law_hues, parsf_law_hues, dflf_law_hues, inof_law_row, parsf_law_row, dflf_law_row, inof_law_square, parsf_law_square, dflf_law_square, inof_law_pick, parsf_law_pick, dflf_law_pick, inof_law_take, parsf_law_take, dflf_law_take, inof_law_says, parsf_law_says, dflf_law_says, inof_law_no_hues, parsf_law_no_hues, dflf_law_no_hues, inof_law_no_row, parsf_law_no_row, dflf_law_no_row, inof_law_number, parsf_law_number, dflf_law_number, inof_law_ups, parsf_law_ups, dflf_law_ups, inof_square, parsf_square, dflf_square, inof_law_size, parsf_law_size, dflf_law_size, inof_square_back, parsf_square_back, dflf_square_back, inof_law_downs, parsf_law_downs, dflf_law_downs, arr_square_0_hue_right_left_low_hues, hboth', hs, e11, g1, g2, g3, g4, hrv, hadd2, g5, g6, g7, g8, ct6, f1, f2, f3, f4, f5, hul, f7]
  · simp! [f_law_right_k13_body, inof_law_hues, parsf_law_hues, dflf_law_hues, inof_law_row, parsf_law_row, dflf_law_row, inof_law_square, parsf_law_square, dflf_law_square, inof_law_pick, parsf_law_pick, dflf_law_pick, inof_law_take, parsf_law_take, dflf_law_take, inof_law_says, parsf_law_says, dflf_law_says, inof_law_no_hues, parsf_law_no_hues, dflf_law_no_hues, inof_law_no_row, parsf_law_no_row, dflf_law_no_row, inof_law_number, parsf_law_number, dflf_law_number, inof_law_ups, parsf_law_ups, dflf_law_ups, inof_square, parsf_square, dflf_square, inof_law_size, parsf_law_size, dflf_law_size, inof_square_back, parsf_square_back, dflf_square_back, inof_law_downs, parsf_law_downs, dflf_law_downs, arr_square_0_hue_right_left_low_hues, kIte_t, kIte_f, List.map_id, hadd, e4, e5, e5', e6, e7, e7', kW, e8, e9, e10, e10', -kIte_r]
    rw [c1]
    by_cases hs : sz due < 25
    · have hb2 := hback hs
      by_cases hul : up = low
      · subst hul
        simp! [f_law_right_k13_body, inof_law_hues, parsf_law_hues, dflf_law_hues, inof_law_row, parsf_law_row, dflf_law_row, inof_law_square, parsf_law_square, dflf_law_square, inof_law_pick, parsf_law_pick, dflf_law_pick, inof_law_take, parsf_law_take, dflf_law_take, inof_law_says, parsf_law_says, dflf_law_says, inof_law_no_hues, parsf_law_no_hues, dflf_law_no_hues, inof_law_no_row, parsf_law_no_row, dflf_law_no_row, inof_law_number, parsf_law_number, dflf_law_number, inof_law_ups, parsf_law_ups, dflf_law_ups, inof_square, parsf_square, dflf_square, inof_law_size, parsf_law_size, dflf_law_size, inof_square_back, parsf_square_back, dflf_square_back, inof_law_downs, parsf_law_downs, dflf_law_downs, arr_square_0_hue_right_left_low_hues, hboth', hs, e11, hb2, e12, g1, g2, g3, g4, hrv, hadd2, g5, g6, g7, g8, ct6, f1, f2, f3, f4, f5]
      · have f7 := f6 hul
        simp! [f_law_right_k13_body, inof_law_hues, parsf_law_hues, dflf_law_hues, inof_law_row, parsf_law_row, dflf_law_row, inof_law_square, parsf_law_square, dflf_law_square, inof_law_pick, parsf_law_pick, dflf_law_pick, inof_law_take, parsf_law_take, dflf_law_take, inof_law_says, parsf_law_says, dflf_law_says, inof_law_no_hues, parsf_law_no_hues, dflf_law_no_hues, inof_law_no_row, parsf_law_no_row, dflf_law_no_row, inof_law_number, parsf_law_number, dflf_law_number, inof_law_ups, parsf_law_ups, dflf_law_ups, inof_square, parsf_square, dflf_square, inof_law_size, parsf_law_size, dflf_law_size, inof_square_back, parsf_square_back, dflf_square_back, inof_law_downs, parsf_law_downs, dflf_law_downs, arr_square_0_hue_right_left_low_hues, hboth', hs, e11, hb2, e12, g1, g2, g3, g4, hrv, hadd2, g5, g6, g7, g8, ct6, f1, f2, f3, f4, f5, hul, f7]
    · by_cases hul : up = low
      · subst hul
        simp! [f_law_right_k13_body, inof_law_hues, parsf_law_hues, dflf_law_hues, inof_law_row, parsf_law_row, dflf_law_row, inof_law_square, parsf_law_square, dflf_law_square, inof_law_pick, parsf_law_pick, dflf_law_pick, inof_law_take, parsf_law_take, dflf_law_take, inof_law_says, parsf_law_says, dflf_law_says, inof_law_no_hues, parsf_law_no_hues, dflf_law_no_hues, inof_law_no_row, parsf_law_no_row, dflf_law_no_row, inof_law_number, parsf_law_number, dflf_law_number, inof_law_ups, parsf_law_ups, dflf_law_ups, inof_square, parsf_square, dflf_square, inof_law_size, parsf_law_size, dflf_law_size, inof_square_back, parsf_square_back, dflf_square_back, inof_law_downs, parsf_law_downs, dflf_law_downs, arr_square_0_hue_right_left_low_hues, hboth', hs, e11, g1, g2, g3, g4, hrv, hadd2, g5, g6, g7, g8, ct6, f1, f2, f3, f4, f5]
      · have f7 := f6 hul
        simp! [f_law_right_k13_body, inof_law_hues, parsf_law_hues, dflf_law_hues, inof_law_row, parsf_law_row, dflf_law_row, inof_law_square, parsf_law_square, dflf_law_square, inof_law_pick, parsf_law_pick, dflf_law_pick, inof_law_take, parsf_law_take, dflf_law_take, inof_law_says, parsf_law_says, dflf_law_says, inof_law_no_hues, parsf_law_no_hues, dflf_law_no_hues, inof_law_no_row, parsf_law_no_row, dflf_law_no_row, inof_law_number, parsf_law_number, dflf_law_number, inof_law_ups, parsf_law_ups, dflf_law_ups, inof_square, parsf_square, dflf_square, inof_law_size, parsf_law_size, dflf_law_size, inof_square_back, parsf_square_back, dflf_square_back, inof_law_downs, parsf_law_downs, dflf_law_downs, arr_square_0_hue_right_left_low_hues, hboth', hs, e11, g1, g2, g3, g4, hrv, hadd2, g5, g6, g7, g8, ct6, f1, f2, f3, f4, f5, hul, f7]
theorem square_c {h : Int} {low left right w : List Int} {k : Int} (h1 : 1 ≤ h) (h3 : h ≤ 3) (hl : RowOk h low) (hle : RowOk h left) (hri : RowOk h right) (sl : Side h low left) (sr : Side h low right) (k1 : 0 ≤ k) (k2 : k ≤ h) (hk : k ≠ 0 → left = low ∧ right = low) (hw : squareL low left right k = w) :
    pr.call (n + 4) "square" [.int h, row low, row left, row right, .int k] = .ok (.val (row w)) [] := by
  rw [square_s h1 h3 hl hle hri sl sr k1 k2 hk, hw]
instance {h : Int} {low x : List Int} : Decidable (Side h low x) := inferInstanceAs (Decidable (_ ∨ _))
theorem law_all (ns : List Int) (hl : ns.length ≤ 63) (hb : ∀ z ∈ ns, Builtin.Int.intBits z ≤ 1048576) : pr.call 20 "law" [.scr ns] = .ok (.val (.bl true)) [] := by
  obtain ⟨d, hd, e0⟩ := law_begun_s (P := pr) (n := 18) hl hb
  rw [runf_law_k13]
  simp! [f_law_k13_body, inof_law_begun, parsf_law_begun, dflf_law_begun, inof_law_says, parsf_law_says, dflf_law_says, inof_square, parsf_square, dflf_square, inof_law_right_k13, parsf_law_right_k13, dflf_law_right_k13, e0]
  obtain ⟨d', s2, hd', q, e⟩ := law_main (P := pr) (n := 19) (fun c => inof_law_right_k13) (fun c => parsf_law_right_k13) (fun c => dflf_law_right_k13) (fun d hd => law_right_s (n := 12) hd) (s := .scr ns) (τ := [.no]) hd (6 + if (14 : Int) < ns.length then 14 else (ns.length : Int)).toNat
  have e' : loop (turnS (pr.ifc (pr.call 19)) (.sl 2) f_law_k13_b1) ((List.range (6 + if (14 : Int) < ns.length then 14 else (ns.length : Int)).toNat).map natD) [.val (.scr ns), .own (drawD d), .no, .no] = .nx [.val (.scr ns), .own (drawD d'), s2, .no] := e
  rw [e']
  have t1 : pr.call 19 "square" [.int 1, row (List.replicate 12 0), row (List.replicate 12 0), row (List.replicate 12 0), .int 1] = .ok (.val (row (1 :: List.replicate 12 0))) [] := square_c (n := 15) (by omega) (by omega) (by decide +kernel) (by decide +kernel) (by decide +kernel) (.inl rfl) (.inl rfl) (by omega) (by omega) (by decide +kernel) (by decide +kernel)
  have t2 : pr.call 19 "square" [.int 2, row [1], row [1], row [1], .int 2] = .ok (.val (row [2, 1])) [] := square_c (n := 15) (by omega) (by omega) (by decide +kernel) (by decide +kernel) (by decide +kernel) (.inl rfl) (.inl rfl) (by omega) (by omega) (by decide +kernel) (by decide +kernel)
  have t3 : pr.call 19 "square" [.int 1, row [1], row [0], row [1, 1], .int 0] = .ok (.val (row [0, 1])) [] := square_c (n := 15) (by omega) (by omega) (by decide +kernel) (by decide +kernel) (by decide +kernel) (by decide +kernel) (by decide +kernel) (by omega) (by omega) (by decide +kernel) (by decide +kernel)
  have t4 : pr.call 19 "square" [.int 1, row [1], row [0], row [0], .int 0] = .ok (.val (row [0, 1])) [] := square_c (n := 15) (by omega) (by omega) (by decide +kernel) (by decide +kernel) (by decide +kernel) (by decide +kernel) (by decide +kernel) (by omega) (by omega) (by decide +kernel) (by decide +kernel)
  have t5 : pr.call 19 "square" [.int 1, row [1], row [0], row [1], .int 0] = .ok (.val (row [0])) [] := square_c (n := 15) (by omega) (by omega) (by decide +kernel) (by decide +kernel) (by decide +kernel) (by decide +kernel) (by decide +kernel) (by omega) (by omega) (by decide +kernel) (by decide +kernel)
  have t6 : pr.call 19 "square" [.int 1, row [1], row [1], row [1, 1], .int 0] = .ok (.val (row [1, 1])) [] := square_c (n := 15) (by omega) (by omega) (by decide +kernel) (by decide +kernel) (by decide +kernel) (by decide +kernel) (by decide +kernel) (by omega) (by omega) (by decide +kernel) (by decide +kernel)
  have t7 : pr.call 19 "square" [.int 1, .tup [], .tup [], .tup [], .int 0] = .ok (.val (row [])) [] := square_c (n := 15) (low := []) (left := []) (right := []) (by omega) (by omega) (by decide +kernel) (by decide +kernel) (by decide +kernel) (.inl rfl) (.inl rfl) (by omega) (by omega) (by decide +kernel) (by decide +kernel)
  have t8 : pr.call 19 "_law_says" [.lst [.bl true, row [2, 1], row [0, 1], row [0, 1], row [0], row [1, 1], row []], .lst [.bl true, row [2, 1], row [0, 1], row [0, 1], row [0], row [1, 1], .tup []]] = .ok (.val (.bl true)) [] := law_says_s (by decide +kernel) (by decide +kernel)
  simp! [f_law_k13_body, inof_law_begun, parsf_law_begun, dflf_law_begun, inof_law_says, parsf_law_says, dflf_law_says, inof_square, parsf_square, dflf_square, inof_law_right_k13, parsf_law_right_k13, dflf_law_right_k13, t1, t2, t3, t4, t5, t6, t7, t8]
end K13

/- K13 -/
set_option Elab.async false
set_option linter.all false
set_option maxRecDepth 100000
set_option maxHeartbeats 0
namespace K13
open PySem Mini
def G : Stat where
  fns := [("is_whole" : Str), ("is_hues" : Str), ("need_hues" : Str), ("size_of" : Str), ("is_row_of" : Str), ("leading" : Str), ("ups_by" : Str), ("downs_by" : Str), ("square_by" : Str), ("back_by" : Str), ("is_side" : Str), ("square" : Str), ("square_back" : Str), ("_law_begun" : Str), ("_law_mixed" : Str), ("_law_take" : Str), ("_law_pick" : Str), ("_law_kinds" : Str), ("_law_says" : Str), ("_law_hues" : Str), ("_law_no_hues" : Str), ("_law_number" : Str), ("_law_size" : Str), ("_law_row" : Str), ("_law_downs" : Str), ("_law_ups" : Str), ("_law_square" : Str), ("_law_no_row" : Str), ("_law_right" : Str), ("law" : Str)]
  ino := [(("is_whole" : Str), [false]), (("is_hues" : Str), [false]), (("need_hues" : Str), [false]), (("size_of" : Str), [false]), (("is_row_of" : Str), [false, false]), (("leading" : Str), [false]), (("ups_by" : Str), [false, false]), (("downs_by" : Str), [false, false]), (("square_by" : Str), [false, false, false, false]), (("back_by" : Str), [false, false, false]), (("is_side" : Str), [false, false, false]), (("square" : Str), [false, false, false, false, false]), (("square_back" : Str), [false, false, false, false]), (("_law_begun" : Str), [false]), (("_law_mixed" : Str), [true]), (("_law_take" : Str), [true, false]), (("_law_pick" : Str), [true, false]), (("_law_kinds" : Str), [false]), (("_law_says" : Str), [false, false]), (("_law_hues" : Str), [true]), (("_law_no_hues" : Str), [true]), (("_law_number" : Str), [true, false, false]), (("_law_size" : Str), [false]), (("_law_row" : Str), [true, false, false]), (("_law_downs" : Str), [false, false]), (("_law_ups" : Str), [false, false]), (("_law_square" : Str), [false, false, false, false]), (("_law_no_row" : Str), [true, false]), (("_law_right" : Str), [true]), (("law" : Str), [false])]
  calls := [(("_law_begun" : Str), 1, []), (("_law_downs" : Str), 2, []), (("_law_hues" : Str), 1, []), (("_law_kinds" : Str), 1, []), (("_law_mixed" : Str), 1, []), (("_law_no_hues" : Str), 1, []), (("_law_no_row" : Str), 2, []), (("_law_number" : Str), 3, []), (("_law_pick" : Str), 2, []), (("_law_right" : Str), 1, []), (("_law_row" : Str), 3, []), (("_law_says" : Str), 2, []), (("_law_size" : Str), 1, []), (("_law_square" : Str), 4, []), (("_law_take" : Str), 2, []), (("_law_ups" : Str), 2, []), (("back_by" : Str), 3, []), (("downs_by" : Str), 2, []), (("is_hues" : Str), 1, []), (("is_row_of" : Str), 2, []), (("is_side" : Str), 3, []), (("is_whole" : Str), 1, []), (("leading" : Str), 1, []), (("need_hues" : Str), 1, []), (("size_of" : Str), 1, []), (("square" : Str), 0, [("hue" : Str), ("right" : Str), ("left" : Str), ("low" : Str), ("hues" : Str)]), (("square" : Str), 5, []), (("square_back" : Str), 4, []), (("square_by" : Str), 4, []), (("ups_by" : Str), 2, [])]
  clss := [("BadHue" : Str), ("BadHues" : Str), ("BadLeft" : Str), ("BadLow" : Str), ("BadRight" : Str)]
  excs := [("BadHue" : Str), ("BadHues" : Str), ("BadLeft" : Str), ("BadLow" : Str), ("BadRight" : Str), ("BadTop" : Str)]
  ct := ["_law_caught"]

abbrev P : Program := PySem.Challenge.pw_pairsingles_k13_whole_squares
def W : LawD where
  pr := pr
  G := G
  ds := [mkD P 11 [], mkD P 12 [], mkD P 13 [], mkD P 14 [], mkD P 15 [], mkD P 17 [], mkD P 18 [], mkD P 19 [], mkD P 21 [], mkD P 22 [], mkD P 23 [], mkD P 24 [], mkD P 25 [], mkD P 27 [], mkD P 28 [], mkD P 29 [], mkD P 30 [], mkD P 32 [], mkD P 33 [], mkD P 34 [], mkD P 35 [], mkD P 36 [], mkD P 37 [], mkD P 38 [], mkD P 39 [], mkD P 40 [], mkD P 41 [], mkD P 42 [], mkD P 43 [], mkD P 44 []]
  ct := [mkD P 31 []]
  exs := [("StepError" : Str), ("BadHue" : Str), ("BadHues" : Str), ("BadLeft" : Str), ("BadLow" : Str), ("BadRight" : Str), ("BadTop" : Str)]
  lams := ["_law_right"]

def loose : List Str := [("StepError" : Str), ("BadHue" : Str), ("BadHues" : Str), ("BadLeft" : Str), ("BadLow" : Str), ("BadRight" : Str), ("BadTop" : Str), ("MOST_HUES" : Str), ("MOST_SIZE" : Str), ("is_whole" : Str), ("is_hues" : Str), ("need_hues" : Str), ("size_of" : Str), ("is_row_of" : Str), ("leading" : Str), ("ups_by" : Str), ("downs_by" : Str), ("square_by" : Str), ("back_by" : Str), ("is_side" : Str), ("square" : Str), ("square_back" : Str), ("_law_begun" : Str), ("_law_mixed" : Str), ("_law_take" : Str), ("_law_pick" : Str), ("_law_caught" : Str), ("_law_kinds" : Str), ("_law_says" : Str), ("_law_hues" : Str), ("_law_no_hues" : Str), ("_law_number" : Str), ("_law_size" : Str), ("_law_row" : Str), ("_law_downs" : Str), ("_law_ups" : Str), ("_law_square" : Str), ("_law_no_row" : Str), ("_law_right" : Str)]
theorem wok : W.ok = true := by decide +kernel
abbrev R : PySem.W.OpenRow := PySem.W.OpenLaw.row PySem.Challenge.rw_pairsingles_k13_whole_squares
abbrev hk : PySem.W.Hook := He.hookX 4 W.fa (W.ds ++ W.ct) [] W.tf W.exB
def ob (s : PySem.W.SharedT) : He.AlX := He.obsX 4 W.fa (W.ds ++ W.ct) [] W.tf W.exB (HandSHeadRun.getT s)
theorem ob_eq (s : PySem.W.SharedT) : ob s = hk.obs s.abs := He.obsX_eq (HandSHeadRun.getT_eq s)
theorem run (w : World) : HandSHeadRun.RunEq R (PySem.W.view R.prog [44]) hk ob 3000 loose w := by
  intro os
  kernel_rfl
end K13
open PySem PySem.W PySem.Calls PyProof.Rows
theorem PySem.Challenge.cw_pairsingles_k13_whole_squares_holds : PySem.Challenge.rw_pairsingles_k13_whole_squares.Holds := by
  have hall := K13.law_all
  w_on; o_law
  refine HandSHeadRun.head_any (r := OpenLaw.row PySem.Challenge.rw_pairsingles_k13_whole_squares) (q := view (OpenLaw.row PySem.Challenge.rw_pairsingles_k13_whole_squares).prog [44]) (H := K13.hk) (ob := K13.ob) (M := 3000) (loose := K13.loose) (d := HandSHeadRun.topDef (OpenLaw.row PySem.Challenge.rw_pairsingles_k13_whole_squares).prog 44) (kwd := []) K13.ob_eq
    (by kernel_rfl) (fun s => by kernel_rfl) K13.run (by kernel_rfl) (by kernel_rfl) (by kernel_rfl) (by rfl) (by first | assumption | decide +kernel) (by decide +kernel) ⟨rfl, rfl, rfl, rfl, rfl, by decide +kernel⟩ ?hw ?hc
  case hw => w_witness2
  case hc => exact Mini.law_walk (fn := Mini.f_law_k13) K13.wok rfl (by kernel_rfl) (by kernel_rfl) (by decide) (by kernel_rfl) rfl rfl rfl hall

