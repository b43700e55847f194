import PyProof.Rows.All
import Wide.All
import OpenK.AllK
import Wide.FinOn
import HandS.ForMost
import HandS.Wide
import HandS.WideBits
import HandS.TupMul
import HandS.Style
import HandS.IsInst
import HandS.Rev
import KE.GoesMore
import KE.GoesZip
import KE.GoesEnum
import HandS.Flow
import HandS.ExcOwn
import HandS.Lambda
import HandS.WideMore
import HandS.Defaults
import HandS.Ends
import HandS.More
import HandS.Words
import HandS.WordsExc
import HandS.Head0
import HandS.Head1
import HandS.Head2
import HandS.HeadEnd
import HandS.HeadHook1
import HandS.HeadHook2
import PySem.Challenge.RW_fewleaps_k14_whole_outward
set_option Elab.async false
set_option linter.all false
set_option maxRecDepth 100000
set_option maxHeartbeats 0
/-! A small machine over plain values. -/
namespace PI
open PySem PySem.Spec PyProof.Rows L2

/-! ### values, the store -/
inductive D where
  | non | bl (b : Bool) | int (i : Int) | str (s : List Nat)
  | tup (xs : List D) | lst (xs : List D) | scr (ns : List Int)
  | ref (k : Nat) | fn (f : Nat) | clo (i : Nat) (caps : List D)
inductive O where
  | lst (xs : List D) | dct (kvs : List (D × D)) | ins (c : Nat) (fs : List (Nat × D))
abbrev Sto := List O
inductive R (α : Type) where
  | ok (a : α) (S : Sto) | exc (c : Nat) (fs : List (Nat × D)) (S : Sto) | bad
abbrev M (α : Type) := Sto → R α
def M.bind {α β : Type} (m : M α) (f : α → M β) : M β := fun S => match m S with
  | .ok a S' => f a S'
  | .exc c fs S' => .exc c fs S'
  | .bad => .bad
def M.ret {α : Type} (a : α) : M α := fun S => .ok a S
def M.fail {α : Type} : M α := fun _ => .bad
def M.opt {α : Type} (o : Option α) : M α := fun S => match o with | some a => .ok a S | none => .bad
/-- an error within is not carried -/
def M.calm {α : Type} (m : M α) : M α := fun S => match m S with
  | .ok a S' => .ok a S'
  | _ => .bad
abbrev Env := List (Option D)

/-! ### the text -/
inductive BOp where
  | add | sub | mul | fdiv | mod | pow | shl | shr | band | bor | bxor
  deriving DecidableEq
inductive COp where
  | eq | ne | lt | le | gt | ge | is | isn | inn | nin
  deriving DecidableEq
inductive Ty where
  | int | bool | str | tup | lst
  deriving DecidableEq
/-- built-in functions -/
inductive BI where
  | abs | len | int | max | min | sum | all | any | tuple | list | sorted | str | isi (t : Ty)
  deriving DecidableEq
/-- methods of built-in types -/
inductive ME where
  | append | pop | bitLen | join
  deriving DecidableEq
/-- a target -/
inductive T where
  | nm (i : Nat) | tp (is : List Nat)
  deriving DecidableEq
mutual
inductive E where
  | loc (i : Nat) | cst (d : D) | gfn (f : Nat)
  | bin (op : BOp) (a b : E) | neg (a : E) | inv (a : E) | not (a : E)
  | cmp (op : COp) (a b : E) | chn (o1 o2 : COp) (a b c : E)
  | and (a b : E) | or (a b : E) | ite (c a b : E)
  | tup (es : Es) | lst (fz : Bool) (es : Es)
  | idx (a b : E) | slL (a lo : E) | slU (a hi : E) | slLU (a lo hi : E) | rev (a : E)
  | call (f : Nat) (es kes : Es) (ks : List Nat)
  | bi (b : BI) (es : Es)
  | me (m : ME) (o : E) (es : Es)
  | comp (fz : Bool) (own : List Nat) (elt : E) (tg : T) (it : I) (ifs : Es)
inductive Es where
  | nil | cons (e : E) (es : Es)
inductive I where
  | ex (e : E) | rng (es : Es) | enm (e : E) | zp (a b : E) | rv (e : E)
end
mutual
inductive Sm where
  | pass | brk | cnt | never
  | set (i : Nat) (e : E) | asg (tg : T) (e : E) | aug (i : Nat) (op : BOp) (e : E)
  | seti (o i e : E)
  | ex (e : E) | ret (e : E) | retN
  | ite (c : E) (a b : Ss) | whl (c : E) (b : Ss) | for (tg : T) (it : I) (b : Ss)
inductive Ss where
  | nil | cons (s : Sm) (b : Ss)
end

/-! ### what is told by values -/
def lim : Nat := 16777216
mutual
def toPy : D → PyData
  | .non => .none
  | .bl b => .bool b
  | .int i => .int i
  | .str s => .str ⟨s.toArray⟩
  | .tup xs => .tuple (toPys xs)
  | .lst xs => .list (toPys xs)
  | _ => .none
def toPys : List D → List PyData
  | [] => []
  | x :: xs => toPy x :: toPys xs
end
mutual
/-- plain data, at most so deep -/
def pl : Nat → D → Bool
  | _, .non => true
  | _, .bl _ => true
  | _, .int _ => true
  | _, .str s => s.all fun c => decide (c < 1114112)
  | 0, _ => false
  | n + 1, .tup xs => pls n xs
  | n + 1, .lst xs => pls n xs
  | _, _ => false
def pls : Nat → List D → Bool
  | _, [] => true
  | n, x :: xs => pl n x && pls n xs
end
def deq (a b : D) : Bool := PyData.eqv (toPy a) (toPy b)
/-- a list in the store, as a value -/
def deref (S : Sto) : D → D
  | .ref k => match S[k]? with
    | some (.lst xs) => .lst xs
    | _ => .ref k
  | d => d
def tru (S : Sto) (d : D) : Option Bool := match deref S d with
  | .non => some false
  | .bl b => some b
  | .int i => some (i != 0)
  | .str s => if s.length ≤ lim then some (!s.isEmpty) else none
  | .tup xs => some (!xs.isEmpty)
  | .lst xs => some (!xs.isEmpty)
  | _ => none
def eqM (S : Sto) (a b : D) : Option Bool :=
  let x := deref S a
  let y := deref S b
  if pl 12 x && pl 12 y then some (deq x y) else none
def bits (i : Int) : Nat := i.natAbs.log2
def repL {α : Type} (k : Nat) (xs : List α) : List α := (List.replicate k xs).flatten
def binop (op : BOp) (a b : D) : M D := fun S => match op, deref S a, deref S b with
  | .add, .int i, .int j => .ok (.int (i + j)) S
  | .add, .str s, .str t => if s.length + t.length ≤ lim then .ok (.str (s ++ t)) S else .bad
  | .add, .lst xs, .lst ys => if xs.length + ys.length ≤ lim then .ok (.lst (xs ++ ys)) S else .bad
  | .add, .tup xs, .tup ys => if xs.length + ys.length ≤ lim then .ok (.tup (xs ++ ys)) S else .bad
  | .sub, .int i, .int j => .ok (.int (i - j)) S
  | .mul, .int i, .int j => if bits i + bits j < 1000000 ∨ bits i < 64 ∨ bits j < 64 then .ok (.int (i * j)) S else .bad
  | .mul, .lst xs, .int k => if k < 2 ^ 62 ∧ -(2 ^ 62) < k ∧ xs.length * k.toNat ≤ lim then .ok (.lst (repL k.toNat xs)) S else .bad
  | .mul, .tup xs, .int k => if 2 ≤ k ∧ k ≤ 1000 ∧ xs.length ≤ 1000 ∧ xs ≠ [] then .ok (.tup (repL k.toNat xs)) S else .bad
  | .fdiv, .int i, .int j => if 0 < j ∧ bits j < 9000 then .ok (.int (i / j)) S else .bad
  | .mod, .int i, .int j => if 0 < j then .ok (.int (i % j)) S else .bad
  | .pow, .int i, .int j => if 0 ≤ j ∧ (Builtin.Int.intBits i : Int) * j ≤ 2 ^ 27 then .ok (.int (i ^ j.toNat)) S else .bad
  | .shl, .int i, .int j => if 0 ≤ j ∧ j ≤ 1000000 ∧ bits i ≤ 1000000 then .ok (.int (i * 2 ^ j.toNat)) S else .bad
  | .shr, .int i, .int j => if 0 ≤ j then .ok (.int (i / 2 ^ j.toNat)) S else .bad
  | .band, .int i, .int j => .ok (.int (Builtin.bitAnd i j)) S
  | .bor, .int i, .int j => .ok (.int (Builtin.bitOr i j)) S
  | .bxor, .int i, .int j => .ok (.int (Builtin.bitXor i j)) S
  | _, _, _ => .bad
/-- op=, of integers -/
def augop (op : BOp) (a b : D) : M D := match op, a, b with
  | .pow, _, _ => .fail
  | op, .int i, .int j => binop op (.int i) (.int j)
  | _, _, _ => .fail
def unopI (f : Int → Int) (a : D) : M D := match a with
  | .int i => .ret (.int (f i))
  | _ => .fail
def flat : D → Bool
  | .non => true
  | .bl _ => true
  | .int _ => true
  | .str _ => true
  | _ => false
def inM (S : Sto) (x y : D) : Option Bool := match deref S y with
  | .tup ys => if flat x && ys.all flat then some (ys.any fun y => deq y x) else none
  | .lst ys => if flat x && ys.all flat then some (ys.any fun y => deq y x) else none
  | _ => none
def isNon : D → Bool
  | .non => true
  | _ => false
def isBl (b : Bool) : D → Bool
  | .bl c => c == b
  | _ => false
def cmpop (op : COp) (a b : D) : M Bool := fun S => M.opt (match op, a, b with
  | .eq, a, b => eqM S a b
  | .ne, a, b => (eqM S a b).map (!·)
  | .lt, .int i, .int j => some (decide (i < j))
  | .le, .int i, .int j => some (decide (i ≤ j))
  | .gt, .int i, .int j => some (decide (j < i))
  | .ge, .int i, .int j => some (decide (j ≤ i))
  | .is, a, .non => some (isNon a)
  | .isn, a, .non => some (!isNon a)
  | .is, a, .bl b => some (isBl b a)
  | .isn, a, .bl b => some (!isBl b a)
  | .inn, a, b => inM S a b
  | .nin, a, b => (inM S a b).map (!·)
  | _, _, _ => none) S
def idxop (a b : D) : M D := fun S => M.opt (match deref S a, b with
  | .tup xs, .int i => atI xs i
  | .lst xs, .int i => atI xs i
  | .str s, .int i => if s.length ≤ lim then (atI s i).map fun c => .str [c] else none
  | _, _ => none) S
def cutL {α : Type} (xs : List α) (lo hi : Option Int) : List α := (xs.drop (HT.sIx xs.length 0 lo)).take (HT.sIx xs.length xs.length hi - HT.sIx xs.length 0 lo)
def slcop (a : D) (lo hi : Option Int) : M D := fun S => M.opt (match deref S a with
  | .tup xs => some (.tup (cutL xs lo hi))
  | .lst xs => some (.lst (cutL xs lo hi))
  | .scr ns => some (.lst (cutL (ns.map D.int) lo hi))
  | .str s => if s.length ≤ lim then some (.str (cutL s lo hi)) else none
  | _ => none) S
def revop (a : D) : M D := fun S => M.opt (match deref S a with
  | .tup xs => some (.tup xs.reverse)
  | .lst xs => some (.lst xs.reverse)
  | _ => none) S
def toInt : D → Option Int
  | .int i => some i
  | _ => none
def intL (xs : List D) : Option (List Int) := xs.mapM toInt
def toBl : D → Option Bool
  | .bl b => some b
  | _ => none
def boolL (xs : List D) : Option (List Bool) := xs.mapM toBl
def insI (x : Int) : List Int → List Int
  | [] => [x]
  | y :: ys => if x ≤ y then x :: y :: ys else y :: insI x ys
def sortI : List Int → List Int
  | [] => []
  | x :: xs => insI x (sortI xs)
def maxL : Int → List Int → Int
  | m, [] => m
  | m, x :: xs => maxL (if x > m then x else m) xs
def minL : Int → List Int → Int
  | m, [] => m
  | m, x :: xs => minL (if x < m then x else m) xs
def items (d : D) : Option (List D) := match d with
  | .tup xs => some xs
  | .lst xs => some xs
  | _ => none
def tyIs : Ty → D → Option Bool
  | _, .clo _ _ => none
  | _, .fn _ => none
  | .int, .int _ => some true
  | .int, .bl _ => some true
  | .bool, .bl _ => some true
  | .str, .str _ => some true
  | .tup, .tup _ => some true
  | .lst, .lst _ => some true
  | .lst, .scr _ => some true
  | _, .ref _ => none
  | _, _ => some false
def biop (b : BI) (ds : List D) : M D := fun S => M.opt (match b, ds with
  | .abs, [.int i] => some (.int (if i < 0 then -i else i))
  | .len, [d] => (match deref S d with
    | .tup xs => some (.int xs.length)
    | .lst xs => some (.int xs.length)
    | .str s => if s.length ≤ lim then some (.int s.length) else none
    | _ => none)
  | .int, [.int i] => some (.int i)
  | .int, [.bl b] => some (.int (if b then 1 else 0))
  | .max, [.int i, .int j] => some (.int (if j > i then j else i))
  | .min, [.int i, .int j] => some (.int (if j < i then j else i))
  | .max, [d] => (match deref S d with
    | .lst (.int i :: xs) => (intL xs).map fun ns => .int (maxL i ns)
    | _ => none)
  | .min, [d] => (match deref S d with
    | .lst (.int i :: xs) => (intL xs).map fun ns => .int (minL i ns)
    | _ => none)
  | .sum, [d] => (match deref S d with
    | .lst xs => (intL xs).map fun ns => .int ns.sum
    | _ => none)
  | .all, [d] => (match deref S d with
    | .lst xs => (boolL xs).map fun ns => .bl (ns.all id)
    | _ => none)
  | .any, [d] => (match deref S d with
    | .lst xs => (boolL xs).map fun ns => .bl (ns.any id)
    | _ => none)
  | .tuple, [d] => (match deref S d with
    | .tup xs => some (.tup xs)
    | .lst xs => some (.tup xs)
    | _ => none)
  | .list, [d] => (match deref S d with
    | .tup xs => some (.lst xs)
    | .lst xs => some (.lst xs)
    | _ => none)
  | .sorted, [d] => (match deref S d with
    | .lst xs => (intL xs).bind fun ns => if ns.length < 64 then some (.lst ((sortI ns).map D.int)) else none
    | _ => none)
  | .isi t, [d] => (tyIs t (deref S d)).map D.bl
  | _, _ => none) S
def meop (m : ME) (o : D) (ds : List D) : M D := fun S => match m, o, ds with
  | .append, .ref k, [d] => (match S[k]? with
    | some (.lst xs) => if xs.length < lim then .ok .non (S.set k (.lst (xs ++ [d]))) else .bad
    | _ => .bad)
  | .pop, .ref k, [] => (match S[k]? with
    | some (.lst xs) => (match xs.getLast? with
      | some d => .ok d (S.set k (.lst xs.dropLast))
      | none => .bad)
    | _ => .bad)
  | .bitLen, .int i, [] => .ok (.int (Builtin.Int.intBits i : Nat)) S
  | _, _, _ => .bad
/-- ahead of the arguments: the object has the method -/
def meck (m : ME) (o : D) : M Unit := fun S => match m, o with
  | .append, .ref k => (match S[k]? with
    | some (.lst _) => .ok () S
    | _ => .bad)
  | .pop, .ref k => (match S[k]? with
    | some (.lst _) => .ok () S
    | _ => .bad)
  | .bitLen, .int _ => .ok () S
  | .join, .str _ => .ok () S
  | _, _ => .bad
def setop (o i v : D) : M Unit := fun S => match o, i with
  | .ref k, .int j => (match S[k]? with
    | some (.lst xs) => (match ixN xs.length j with
      | some n => .ok () (S.set k (.lst (xs.set n v)))
      | none => .bad)
    | _ => .bad)
  | _, _ => .bad
def newL (fz : Bool) (xs : List D) : M D := fun S =>
  if xs.length ≤ lim then (if fz then .ok (.lst xs) S else .ok (.ref S.length) (S ++ [.lst xs])) else .bad

/-! ### running -/
abbrev Cal := Nat → List Nat → List D → M D
def wipeE (ρ : Env) : List Nat → Env
  | [] => ρ
  | v :: vs => (wipeE ρ vs).set v none
def asgs : List Nat → List D → Env → Option Env
  | [], [], ρ => some ρ
  | i :: is, d :: ds, ρ => asgs is ds (ρ.set i (some d))
  | _, _, _ => none
def asgT (tg : T) (d : D) (ρ : Env) : Option Env := match tg, d with
  | .nm i, d => some (ρ.set i (some d))
  | .tp is, .tup ds => asgs is ds ρ
  | _, _ => none
def compL (tg : T) (tst : Env → M Bool) (elt : Env → M D) (ρ : Env) : List D → Nat → M (List D)
  | [], _ => .ret []
  | d :: ds, n => match asgT tg d ρ with
    | none => .fail
    | some ρ1 => (tst ρ1).bind fun b => if b then (elt ρ1).bind fun y => (if n < lim then (compL tg tst elt ρ ds (n + 1)).bind fun ys => .ret (y :: ys) else .fail) else compL tg tst elt ρ ds n
def enumL : Nat → List D → List D
  | _, [] => []
  | n, d :: ds => .tup [.int n, d] :: enumL (n + 1) ds
def zipL : List D → List D → List D
  | d :: ds, e :: es => .tup [d, e] :: zipL ds es
  | _, _ => []
def rngL (lo : Int) (n : Nat) : List D := (List.range n).map fun (i : Nat) => .int (lo + i)
def rng (ds : List D) : Option (List D) := match ds with
  | [.int j] => if -(2 ^ 62) ≤ j ∧ j < 2 ^ 62 then some (rngL 0 j.toNat) else none
  | [.int i, .int j] => if -(2 ^ 62) ≤ i ∧ i < 2 ^ 62 ∧ -(2 ^ 62) ≤ j ∧ j < 2 ^ 62 then some (rngL i (j - i).toNat) else none
  | _ => none
def truM (d : D) : M Bool := fun S => M.opt (tru S d) S
mutual
def ev (C : Cal) : E → Env → M D
  | .loc i, ρ => .opt (ρ[i]?.join)
  | .cst d, _ => .ret d
  | .gfn f, _ => .ret (.fn f)
  | .bin op a b, ρ => (ev C a ρ).bind fun x => (ev C b ρ).bind fun y => binop op x y
  | .neg a, ρ => (ev C a ρ).bind (unopI fun i => -i)
  | .inv a, ρ => (ev C a ρ).bind (unopI Builtin.bitNot)
  | .not a, ρ => (ev C a ρ).bind fun x => (truM x).bind fun b => .ret (.bl (!b))
  | .cmp op a b, ρ => (ev C a ρ).bind fun x => (ev C b ρ).bind fun y => (cmpop op x y).bind fun b => .ret (.bl b)
  | .chn o1 o2 a b c, ρ => (ev C a ρ).bind fun x => (ev C b ρ).bind fun y => (cmpop o1 x y).bind fun k =>
      if k then (ev C c ρ).bind fun z => (cmpop o2 y z).bind fun b => .ret (.bl b) else .ret (.bl false)
  | .and a b, ρ => (ev C a ρ).bind fun x => (truM x).bind fun k => if k then ev C b ρ else .ret x
  | .or a b, ρ => (ev C a ρ).bind fun x => (truM x).bind fun k => if k then .ret x else ev C b ρ
  | .ite c a b, ρ => (ev C c ρ).bind fun x => (truM x).bind fun k => if k then ev C a ρ else ev C b ρ
  | .tup es, ρ => (evs C es ρ).bind fun ds => if ds.length ≤ lim then .ret (.tup ds) else .fail
  | .lst fz es, ρ => (evs C es ρ).bind fun ds => newL fz ds
  | .idx a b, ρ => (ev C a ρ).bind fun x => (ev C b ρ).bind fun y => idxop x y
  | .slL a lo, ρ => (ev C a ρ).bind fun x => (ev C lo ρ).bind fun y => (M.opt (toInt y)).bind fun i => slcop x (some i) none
  | .slU a hi, ρ => (ev C a ρ).bind fun x => (ev C hi ρ).bind fun y => (M.opt (toInt y)).bind fun i => slcop x none (some i)
  | .slLU a lo hi, ρ => (ev C a ρ).bind fun x => (ev C lo ρ).bind fun y => (M.opt (toInt y)).bind fun i => (ev C hi ρ).bind fun z => (M.opt (toInt z)).bind fun j => slcop x (some i) (some j)
  | .rev a, ρ => (ev C a ρ).bind revop
  | .call f es kes ks, ρ => (evs C es ρ).bind fun ds => (evs C kes ρ).bind fun zs => C f ks (ds ++ zs)
  | .bi b es, ρ => (evs C es ρ).bind fun ds => biop b ds
  | .me m o es, ρ => (ev C o ρ).bind fun x => (meck m x).bind fun _ => (evs C es ρ).bind fun ds => meop m x ds
  | .comp fz own elt tg it ifs, ρ => (evI C it ρ).bind fun ds =>
      ((compL tg (fun ρ1 => evT C ifs ρ1) (fun ρ1 => ev C elt ρ1) (wipeE ρ own) ds 0).calm).bind fun ys => newL fz ys
def evs (C : Cal) : Es → Env → M (List D)
  | .nil, _ => .ret []
  | .cons e es, ρ => (ev C e ρ).bind fun d => (evs C es ρ).bind fun ds => .ret (d :: ds)
/-- all tests hold -/
def evT (C : Cal) : Es → Env → M Bool
  | .nil, _ => .ret true
  | .cons e es, ρ => (ev C e ρ).bind fun d => (truM d).bind fun b => if b then evT C es ρ else .ret false
def evI (C : Cal) : I → Env → M (List D)
  | .ex e, ρ => (ev C e ρ).bind fun d => .opt (items d)
  | .rng es, ρ => (evs C es ρ).bind fun ds => .opt (PI.rng ds)
  | .enm e, ρ => (ev C e ρ).bind fun d => (M.opt (items d)).bind fun xs => .ret (enumL 0 xs)
  | .zp a b, ρ => (ev C a ρ).bind fun x => (ev C b ρ).bind fun y => (M.opt (items x)).bind fun xs => (M.opt (items y)).bind fun ys => .ret (zipL xs ys)
  | .rv e, ρ => (ev C e ρ).bind fun d => (M.opt (items d)).bind fun xs => .ret xs.reverse
end
inductive Fl where
  | nx | rt (d : D) | bk | ct
inductive RS where
  | ok (f : Fl) (ρ : Env) (S : Sto) | exc (c : Nat) (fs : List (Nat × D)) (ρ : Env) (S : Sto) | bad
def lift {α : Type} (m : M α) (ρ : Env) (f : α → Sto → RS) : Sto → RS := fun S => match m S with
  | .ok a S' => f a S'
  | .exc c fs S' => .exc c fs ρ S'
  | .bad => .bad
def RS.seq (r : RS) (f : Env → Sto → RS) : RS := match r with
  | .ok .nx ρ S => f ρ S
  | r => r
def forL (tg : T) (body : Env → Sto → RS) : List D → Env → Sto → RS
  | [], ρ, S => .ok .nx ρ S
  | d :: ds, ρ, S => match asgT tg d ρ with
    | none => .bad
    | some ρ1 => match body ρ1 S with
      | .ok .nx ρ2 S2 => forL tg body ds ρ2 S2
      | .ok .ct ρ2 S2 => forL tg body ds ρ2 S2
      | .ok .bk ρ2 S2 => .ok .nx ρ2 S2
      | r => r
def whlN (c : Env → M Bool) (body : Env → Sto → RS) : Nat → Env → Sto → RS
  | 0, _, _ => .bad
  | n + 1, ρ, S => lift (c ρ) ρ (fun b S1 => if b then (match body ρ S1 with
      | .ok .nx ρ2 S2 => whlN c body n ρ2 S2
      | .ok .ct ρ2 S2 => whlN c body n ρ2 S2
      | .ok .bk ρ2 S2 => .ok .nx ρ2 S2
      | r => r) else .ok .nx ρ S1) S
mutual
/-- F: turns that a while may take -/
def evS (C : Cal) (F : Nat) : Sm → Env → Sto → RS
  | .pass, ρ, S => .ok .nx ρ S
  | .brk, ρ, S => .ok .bk ρ S
  | .cnt, ρ, S => .ok .ct ρ S
  | .never, _, _ => .bad
  | .set i e, ρ, S => lift (ev C e ρ) ρ (fun d S' => .ok .nx (ρ.set i (some d)) S') S
  | .asg tg e, ρ, S => lift (ev C e ρ) ρ (fun d S' => match asgT tg d ρ with | some ρ1 => .ok .nx ρ1 S' | none => .bad) S
  | .aug i op e, ρ, S => lift ((M.opt (ρ[i]?.join)).bind fun x => (ev C e ρ).bind fun y => augop op x y) ρ (fun d S' => .ok .nx (ρ.set i (some d)) S') S
  | .seti o i e, ρ, S => lift ((ev C e ρ).bind fun v => (ev C o ρ).bind fun x => (ev C i ρ).bind fun y => setop x y v) ρ (fun _ S' => .ok .nx ρ S') S
  | .ex e, ρ, S => lift (ev C e ρ) ρ (fun _ S' => .ok .nx ρ S') S
  | .ret e, ρ, S => lift (ev C e ρ) ρ (fun d S' => .ok (.rt d) ρ S') S
  | .retN, ρ, S => .ok (.rt .non) ρ S
  | .ite c a b, ρ, S => lift ((ev C c ρ).bind truM) ρ (fun k S' => if k then evB C F a ρ S' else evB C F b ρ S') S
  | .whl c b, ρ, S => whlN (fun ρ => (ev C c ρ).bind truM) (fun ρ S => evB C F b ρ S) F ρ S
  | .for tg it b, ρ, S => lift (evI C it ρ) ρ (fun ds S' => forL tg (fun ρ S => evB C F b ρ S) ds ρ S') S
def evB (C : Cal) (F : Nat) : Ss → Env → Sto → RS
  | .nil, ρ, S => .ok .nx ρ S
  | .cons s b, ρ, S => (evS C F s ρ S).seq fun ρ1 S1 => evB C F b ρ1 S1
end

/-! ### defs -/
structure Fn where
  np : Nat
  dfl : List D
  ns : Nat
  body : Ss
def argAt {α : Type} (np : Nat) (dfl : List α) (n : Nat) (ks : List Nat) (ds : List α) (i : Nat) : Option α :=
  if i < n then ds[i]? else match ks.idxOf? i with
    | some j => ds[n + j]?
    | none => if np ≤ i + dfl.length then dfl[i + dfl.length - np]? else none
def arr {α : Type} (np : Nat) (dfl : List α) (n : Nat) (ks : List Nat) (ds : List α) : Option (List α) := (List.range np).mapM (argAt np dfl n ks ds)
def runFn (C : Cal) (F : Nat) (fn : Fn) (args : List D) : M D := fun S => match evB C F fn.body (args.map some ++ List.replicate (fn.ns - args.length) none) S with
  | .ok .nx _ S' => .ok .non S'
  | .ok (.rt d) _ S' => .ok d S'
  | .ok _ _ _ => .bad
  | .exc c fs _ S' => .exc c fs S'
  | .bad => .bad
def calK (fns : Nat → Option Fn) (F : Nat) : Nat → Cal
  | 0 => fun _ _ _ _ => .bad
  | k + 1 => fun f ks ds S => match fns f with
    | none => .bad
    | some fn => match arr fn.np fn.dfl (ds.length - ks.length) ks ds with
      | none => .bad
      | some args => runFn (calK fns F k) F fn args S
end PI

/-! how the plain values stand in the abstract heap -/
namespace PI
open PySem PySem.Spec PyProof.Rows L2

/-- the world's facts: the written part, the module's names, where the defs stand; what a closure is -/
structure Gm where
  K : PySem.W.Frag
  mg : Str → Option Value
  fa : Nat → Addr
  cl : Nat → List D → V → Prop
  /-- lists being made, that no value names -/
  hid : List Addr
abbrev Gm.h (Γ : Gm) (l : List Addr) : Gm := { Γ with hid := l }
abbrev Fz (Γ : Gm) (am : List Addr) (a : Addr) : Prop := a ∉ am ∧ a ∉ Γ.hid
/-- a tuple: tracked, or of the written part -/
def TpT (K : PySem.W.Frag) (H : Hp) (a : Addr) (vs : List V) : Prop :=
  H a = some (.tup vs) ∨ ∃ (o : Obj) (its : Array Value) (n : Nat), K.lookup a = some o ∧ o.cls = .type "tuple" ∧ o.data = .seq its n ∧ its.size ≤ sizeLine ∧ Vals vs its.toList
theorem TpT.sq {K : PySem.W.Frag} {H : Hp} {a : Addr} {vs : List V} (h : TpT K H a vs) : SqT K H a vs := h.elim (fun h => .inl (.inl h)) .inr
mutual
def RD (Γ : Gm) (am : List Addr) (H : Hp) : D → V → Prop
  | .non, v => v = .non
  | .bl b, v => v = .bl b
  | .int i, v => v = .int i
  | .str s, v => v = .str ⟨s.toArray⟩
  | .tup ds, v => ∃ a vs, v = .ref a ∧ TpT Γ.K H a vs ∧ RDs Γ am H ds vs
  | .lst ds, v => ∃ a vs, v = .ref a ∧ H a = some (.lst vs) ∧ Fz Γ am a ∧ RDs Γ am H ds vs
  | .scr ns, v => ∃ a, v = .ref a ∧ ((Rd H a (.lst (ns.map V.int)) ∧ Fz Γ am a) ∨
      ∃ (o : Obj) (its : Array Value) (n : Nat), Γ.K.lookup a = some o ∧ o.cls = .type "list" ∧ o.dict = none ∧ o.data = .seq its n ∧ its.size ≤ sizeLine ∧ Vals (ns.map V.int) its.toList)
  | .ref k, v => ∃ a, am[k]? = some a ∧ v = .ref a
  | .fn f, v => v = .ref (Γ.fa f)
  | .clo i ds, v => Γ.cl i ds v
def RDs (Γ : Gm) (am : List Addr) (H : Hp) : List D → List V → Prop
  | [], vs => vs = []
  | d :: ds, vs => ∃ v r, vs = v :: r ∧ RD Γ am H d v ∧ RDs Γ am H ds r
end
def RO (Γ : Gm) (am : List Addr) (H : Hp) (a : Addr) : O → Prop
  | .lst ds => ∃ vs, H a = some (.lst vs) ∧ RDs Γ am H ds vs
  | _ => False
structure Rel (Γ : Gm) (am : List Addr) (S : Sto) (H : Hp) : Prop where
  len : am.length = S.length
  nd : am.Nodup
  ob : ∀ (k : Nat) (o : O), S[k]? = some o → ∃ a, am[k]? = some a ∧ RO Γ am H a o
  hal : ∀ a ∈ Γ.hid, ∃ o, H a = some o
structure Ext (am : List Addr) (H : Hp) (am' : List Addr) (H' : Hp) : Prop where
  pre : ∃ t, am' = am ++ t
  fre : ∀ a ∈ am', a ∉ am → H a = none
  kep : ∀ a o, H a = some o → a ∉ am → H' a = some o
  tup : ∀ a vs, H a = some (.tup vs) → H' a = some (.tup vs)
  alv : ∀ a o, H a = some o → ∃ o', H' a = some o'
theorem Ext.refl (am : List Addr) (H : Hp) : Ext am H am H := ⟨⟨[], by simp⟩, fun a h n => absurd h n, fun _ _ h _ => h, fun _ _ h => h, fun _ o h => ⟨o, h⟩⟩
theorem Ext.sub {am am' : List Addr} {H H' : Hp} (e : Ext am H am' H') {a : Addr} (h : a ∈ am) : a ∈ am' := by
  obtain ⟨t, rfl⟩ := e.pre
  exact List.mem_append_left _ h
theorem Ext.trans {am am1 am2 : List Addr} {H H1 H2 : Hp} (e : Ext am H am1 H1) (f : Ext am1 H1 am2 H2) : Ext am H am2 H2 := by
  have hn : ∀ a, a ∉ am → (∃ o, H a = some o) → a ∉ am1 := fun a h ⟨o, q⟩ m => by
    rw [e.fre a m h] at q
    cases q
  refine ⟨?_, fun a h2 h0 => ?_, fun a o h h0 => f.kep a o (e.kep a o h h0) (hn a h0 ⟨o, h⟩), fun a vs h => f.tup a vs (e.tup a vs h), fun a o h => ?_⟩
  · obtain ⟨t, rfl⟩ := e.pre
    obtain ⟨u, rfl⟩ := f.pre
    exact ⟨t ++ u, by rw [List.append_assoc]⟩
  · by_cases h1 : a ∈ am1
    · exact e.fre a h1 h0
    · cases q : H a with
      | none => rfl
      | some o =>
        have := f.fre a h2 h1
        rw [e.kep a o q h0] at this
        cases this
  · obtain ⟨o1, q⟩ := e.alv a o h
    exact f.alv a o1 q
theorem TpT.ext {K : PySem.W.Frag} {am am' : List Addr} {H H' : Hp} {a : Addr} {vs : List V} (e : Ext am H am' H') (h : TpT K H a vs) : TpT K H' a vs := h.elim (fun h => .inl (e.tup a vs h)) .inr
theorem Ext.out {am am' : List Addr} {H H' : Hp} (e : Ext am H am' H') {a : Addr} {o : HO} (h : H a = some o) (n : a ∉ am) : a ∉ am' := fun m => by
  rw [e.fre a m n] at h
  cases h
section
variable {Γ : Gm}
mutual
theorem RD.ext {am am' : List Addr} {H H' : Hp} (e : Ext am H am' H') : ∀ {d : D} {v : V}, RD Γ am H d v → RD Γ am' H' d v
  | .non, _, h => h
  | .bl _, _, h => h
  | .int _, _, h => h
  | .str _, _, h => h
  | .tup ds, v, h => by
    unfold RD at h ⊢
    obtain ⟨a, vs, e1, h1, h2⟩ := h
    exact ⟨a, vs, e1, h1.ext e, RDs.ext e h2⟩
  | .lst ds, v, h => by
    unfold RD at h ⊢
    obtain ⟨a, vs, e1, h1, n, h2⟩ := h
    exact ⟨a, vs, e1, e.kep a _ h1 n.1, ⟨e.out h1 n.1, n.2⟩, RDs.ext e h2⟩
  | .scr ns, v, h => by
    unfold RD at h ⊢
    obtain ⟨a, e1, h1⟩ := h
    rcases h1 with ⟨h1, n⟩ | h1
    · rcases h1 with h1 | ⟨o, h1⟩
      · exact ⟨a, e1, .inl ⟨.inl (e.kep a _ h1 n.1), e.out h1 n.1, n.2⟩⟩
      · exact ⟨a, e1, .inl ⟨.inr ⟨o, e.kep a _ h1 n.1⟩, e.out h1 n.1, n.2⟩⟩
    · exact ⟨a, e1, .inr h1⟩
  | .ref k, v, h => by
    unfold RD at h ⊢
    obtain ⟨a, h1, h2⟩ := h
    obtain ⟨t, rfl⟩ := e.pre
    refine ⟨a, ?_, h2⟩
    rw [List.getElem?_append_left (List.getElem?_eq_some_iff.mp h1).1]
    exact h1
  | .fn _, _, h => h
  | .clo _ _, _, h => h
theorem RDs.ext {am am' : List Addr} {H H' : Hp} (e : Ext am H am' H') : ∀ {ds : List D} {vs : List V}, RDs Γ am H ds vs → RDs Γ am' H' ds vs
  | [], _, h => h
  | d :: ds, vs, h => by
    unfold RDs at h ⊢
    obtain ⟨v, r, e1, h1, h2⟩ := h
    exact ⟨v, r, e1, RD.ext e h1, RDs.ext e h2⟩
end
/-! ### the store's moves -/
variable {am : List Addr} {S : Sto} {H : Hp} {p a : Addr} {o : HO} {k : Nat}
theorem RDs.length : ∀ {ds : List D} {vs : List V}, RDs Γ am H ds vs → vs.length = ds.length
  | [], _, h => by unfold RDs at h; rw [h]; rfl
  | d :: ds, vs, h => by
    unfold RDs at h
    obtain ⟨v, r, rfl, _, h2⟩ := h
    rw [List.length_cons, List.length_cons, RDs.length h2]
theorem RDs.get : ∀ {ds : List D} {vs : List V} {i : Nat} {d : D}, RDs Γ am H ds vs → ds[i]? = some d → ∃ v, vs[i]? = some v ∧ RD Γ am H d v
  | [], _, _, _, _, e => by simp at e
  | d :: ds, vs, 0, d', h, e => by
    unfold RDs at h
    obtain ⟨v, r, rfl, h1, _⟩ := h
    simp at e
    subst e
    exact ⟨v, rfl, h1⟩
  | d :: ds, vs, i + 1, d', h, e => by
    unfold RDs at h
    obtain ⟨v, r, rfl, _, h2⟩ := h
    obtain ⟨u, q1, q2⟩ := RDs.get (i := i) (d := d') h2 (by simpa using e)
    exact ⟨u, by simpa using q1, q2⟩
theorem RDs.nil : RDs Γ am H [] [] := by unfold RDs; rfl
theorem RDs.cons {d : D} {v : V} {ds : List D} {vs : List V} (h : RD Γ am H d v) (t : RDs Γ am H ds vs) : RDs Γ am H (d :: ds) (v :: vs) := by
  unfold RDs
  exact ⟨v, vs, rfl, h, t⟩
theorem RDs.append : ∀ {ds es : List D} {vs us : List V}, RDs Γ am H ds vs → RDs Γ am H es us → RDs Γ am H (ds ++ es) (vs ++ us)
  | [], _, _, _, h, t => by
    unfold RDs at h
    subst h
    exact t
  | d :: ds, es, vs, us, h, t => by
    unfold RDs at h
    obtain ⟨v, r, rfl, h1, h2⟩ := h
    exact RDs.cons h1 (RDs.append h2 t)
theorem RDs.take : ∀ {ds : List D} {vs : List V} (n : Nat), RDs Γ am H ds vs → RDs Γ am H (ds.take n) (vs.take n)
  | _, _, 0, _ => by rw [List.take_zero, List.take_zero]; exact RDs.nil
  | [], _, n + 1, h => by
    unfold RDs at h
    subst h
    rw [List.take_nil, List.take_nil]
    exact RDs.nil
  | d :: ds, vs, n + 1, h => by
    unfold RDs at h
    obtain ⟨v, r, rfl, h1, h2⟩ := h
    rw [List.take_succ_cons, List.take_succ_cons]
    exact RDs.cons h1 (RDs.take n h2)
theorem RDs.drop : ∀ {ds : List D} {vs : List V} (n : Nat), RDs Γ am H ds vs → RDs Γ am H (ds.drop n) (vs.drop n)
  | _, _, 0, h => h
  | [], _, n + 1, h => by
    unfold RDs at h
    subst h
    rw [List.drop_nil, List.drop_nil]
    exact RDs.nil
  | d :: ds, vs, n + 1, h => by
    unfold RDs at h
    obtain ⟨v, r, rfl, h1, h2⟩ := h
    rw [List.drop_succ_cons, List.drop_succ_cons]
    exact RDs.drop n h2
theorem RDs.reverse : ∀ {ds : List D} {vs : List V}, RDs Γ am H ds vs → RDs Γ am H ds.reverse vs.reverse
  | [], _, h => by
    unfold RDs at h
    subst h
    exact RDs.nil
  | d :: ds, vs, h => by
    unfold RDs at h
    obtain ⟨v, r, rfl, h1, h2⟩ := h
    rw [List.reverse_cons, List.reverse_cons]
    exact (RDs.reverse h2).append (RDs.cons h1 RDs.nil)
theorem RDs.set {d : D} {v : V} (hv : RD Γ am H d v) : ∀ {ds : List D} {vs : List V} (n : Nat), RDs Γ am H ds vs → RDs Γ am H (ds.set n d) (vs.set n v)
  | [], _, n, h => by
    unfold RDs at h
    subst h
    exact RDs.nil
  | e :: ds, vs, 0, h => by
    unfold RDs at h
    obtain ⟨u, r, rfl, h1, h2⟩ := h
    exact RDs.cons hv h2
  | e :: ds, vs, n + 1, h => by
    unfold RDs at h
    obtain ⟨u, r, rfl, h1, h2⟩ := h
    exact RDs.cons h1 (RDs.set hv n h2)
theorem RDs.rep {ds : List D} {vs : List V} (h : RDs Γ am H ds vs) : ∀ k : Nat, RDs Γ am H (repL k ds) (List.replicate k vs).flatten
  | 0 => RDs.nil
  | k + 1 => by
    unfold repL
    rw [List.replicate_succ, List.replicate_succ, List.flatten_cons, List.flatten_cons]
    exact h.append (RDs.rep h k)
theorem RDs.dropLast {ds : List D} {vs : List V} (h : RDs Γ am H ds vs) : RDs Γ am H ds.dropLast vs.dropLast := by
  rw [List.dropLast_eq_take, List.dropLast_eq_take, h.length]
  exact h.take _
theorem Ext.new (hp : H p = none) : Ext am H am (upd H p o) := by
  have ne : ∀ a o, H a = some o → a ≠ p := fun a o h => ne_of_none h hp
  exact ⟨⟨[], by simp⟩, fun a h n => absurd h n, fun a o h _ => by rw [upd_ne (ne a o h)]; exact h, fun a vs h => by rw [upd_ne (ne a _ h)]; exact h, fun a o h => ⟨o, by rw [upd_ne (ne a o h)]; exact h⟩⟩
theorem Ext.grow (hp : H p = none) : Ext am H (am ++ [p]) (upd H p o) := by
  have ne : ∀ a o, H a = some o → a ≠ p := fun a o h => ne_of_none h hp
  refine ⟨⟨[p], rfl⟩, fun a h n => ?_, fun a o h _ => by rw [upd_ne (ne a o h)]; exact h, fun a vs h => by rw [upd_ne (ne a _ h)]; exact h, fun a o h => ⟨o, by rw [upd_ne (ne a o h)]; exact h⟩⟩
  rcases List.mem_append.mp h with h | h
  · exact absurd h n
  · rw [List.mem_singleton.mp h]
    exact hp
theorem Ext.put {vs : List V} {o' : HO} (ha : a ∈ am) (h : H a = some (.lst vs)) : Ext am H am (upd H a o') := by
  refine ⟨⟨[], by simp⟩, fun b h n => absurd h n, fun b u hb n => ?_, fun b ws hb => ?_, fun b u hb => ?_⟩
  · rw [upd_ne (fun e : b = a => n (by rw [e]; exact ha))]
    exact hb
  · rw [upd_ne (ne_of hb h (fun e => by cases e))]
    exact hb
  · by_cases e : b = a
    · exact ⟨o', by rw [e, upd_same]⟩
    · exact ⟨u, by rw [upd_ne e]; exact hb⟩
theorem RO.ext {am' : List Addr} {H' : Hp} (e : Ext am H am' H') {a : Addr} (k : H' a = H a) : ∀ {o : O}, RO Γ am H a o → RO Γ am' H' a o
  | .lst ds, h => by
    obtain ⟨vs, h1, h2⟩ := h
    exact ⟨vs, k.trans h1, h2.ext e⟩
  | .dct _, h => h.elim
  | .ins _ _, h => h.elim
theorem RO.some {o : O} (h : RO Γ am H a o) : ∃ u, H a = some u := by
  cases o with
  | lst ds => obtain ⟨vs, h1, _⟩ := h; exact ⟨_, h1⟩
  | dct _ => exact h.elim
  | ins _ _ => exact h.elim
theorem Rel.alive (r : Rel Γ am S H) (h : a ∈ am) : ∃ u, H a = some u := by
  obtain ⟨k, hk, e⟩ := List.getElem_of_mem h
  have hk' : k < S.length := by rw [← r.len]; exact hk
  obtain ⟨b, e1, e2⟩ := r.ob k _ (List.getElem?_eq_getElem hk')
  rw [List.getElem?_eq_getElem hk, e] at e1
  cases e1
  exact e2.some
theorem Rel.hals {am' : List Addr} {H' : Hp} (r : Rel Γ am S H) (e : Ext am H am' H') : ∀ a ∈ Γ.hid, ∃ o, H' a = some o := fun a h =>
  let ⟨o, q⟩ := r.hal a h
  e.alv a o q
theorem Rel.new (r : Rel Γ am S H) (hp : H p = none) : Rel Γ am S (upd H p o) := by
  refine ⟨r.len, r.nd, fun k u e => ?_, r.hals (Ext.new hp)⟩
  obtain ⟨a, e1, e2⟩ := r.ob k u e
  obtain ⟨w, hw⟩ := e2.some
  exact ⟨a, e1, e2.ext (Ext.new hp) (upd_ne (ne_of_none hw hp))⟩
theorem Rel.out0 (r : Rel Γ am S H) (hp : H p = none) : p ∉ am := fun h => by
  obtain ⟨u, q⟩ := r.alive h
  rw [hp] at q
  cases q
theorem Rel.out (r : Rel Γ am S H) (hp : H p = none) : Fz Γ am p := ⟨r.out0 hp, fun h => by
  obtain ⟨u, q⟩ := r.hal p h
  rw [hp] at q
  cases q⟩
theorem Rel.grow (r : Rel Γ am S H) (hp : H p = none) {ds : List D} {vs : List V} (h : RDs Γ am H ds vs) : Rel Γ (am ++ [p]) (S ++ [.lst ds]) (upd H p (.lst vs)) := by
  refine ⟨by rw [List.length_append, List.length_append, r.len]; rfl, ?_, fun k u e => ?_, r.hals (Ext.grow hp)⟩
  · refine List.nodup_append.mpr ⟨r.nd, by simp, fun a ha b hb => ?_⟩
    rw [List.mem_singleton.mp hb]
    intro z
    exact r.out0 hp (z ▸ ha)
  · by_cases hk : k < S.length
    · rw [List.getElem?_append_left hk] at e
      obtain ⟨a, e1, e2⟩ := r.ob k u e
      obtain ⟨w, hw⟩ := e2.some
      exact ⟨a, by rw [List.getElem?_append_left (by rw [r.len]; exact hk)]; exact e1, e2.ext (Ext.grow hp) (upd_ne (ne_of_none hw hp))⟩
    · rw [List.getElem?_append_right (by omega)] at e
      have hk0 : k - S.length = 0 := by
        cases q : k - S.length with
        | zero => rfl
        | succ n => rw [q] at e; simp at e
      rw [hk0] at e
      simp at e
      subst e
      refine ⟨p, ?_, vs, upd_same, h.ext (Ext.grow hp)⟩
      rw [List.getElem?_append_right (by rw [r.len]; omega), r.len, hk0]
      rfl
theorem Rel.put (r : Rel Γ am S H) (ha : am[k]? = some a) {vs0 vs : List V} (h0 : H a = some (.lst vs0)) {ds : List D} (h : RDs Γ am H ds vs) : Rel Γ am (S.set k (.lst ds)) (upd H a (.lst vs)) := by
  have e : Ext am H am (upd H a (.lst vs)) := Ext.put (List.mem_of_getElem? ha) h0
  refine ⟨by rw [List.length_set]; exact r.len, r.nd, fun j u q => ?_, r.hals e⟩
  by_cases hj : j = k
  · subst hj
    have hl : j < S.length := by
      have := (List.getElem?_eq_some_iff.mp q).1
      rw [List.length_set] at this
      exact this
    rw [List.getElem?_set_self hl] at q
    cases q
    exact ⟨a, ha, vs, upd_same, h.ext e⟩
  · rw [List.getElem?_set_ne (Ne.symm hj)] at q
    obtain ⟨b, e1, e2⟩ := r.ob j u q
    refine ⟨b, e1, e2.ext e (upd_ne fun z => hj ?_)⟩
    subst z
    have h1 := (List.getElem?_eq_some_iff.mp e1)
    have h2 := (List.getElem?_eq_some_iff.mp ha)
    obtain ⟨l1, q1⟩ := h1
    obtain ⟨l2, q2⟩ := h2
    exact (List.getElem_inj r.nd).mp (q1.trans q2.symm)
/-! ### another heap, another hidden part -/
structure Tr (Γ : Gm) (am : List Addr) (H : Hp) (l : List Addr) (H' : Hp) : Prop where
  tup : ∀ a vs, H a = some (.tup vs) → H' a = some (.tup vs)
  kep : ∀ a o, H a = some o → Fz Γ am a → H' a = some o ∧ a ∉ l
mutual
theorem RD.tr {l : List Addr} {H' : Hp} (e : Tr Γ am H l H') : ∀ {d : D} {v : V}, RD Γ am H d v → RD (Γ.h l) am H' d v
  | .non, _, h => by unfold RD at h ⊢; exact h
  | .bl _, _, h => by unfold RD at h ⊢; exact h
  | .int _, _, h => by unfold RD at h ⊢; exact h
  | .str _, _, h => by unfold RD at h ⊢; exact h
  | .tup ds, v, h => by
    unfold RD at h ⊢
    obtain ⟨a, vs, e1, h1, h2⟩ := h
    exact ⟨a, vs, e1, h1.elim (fun h => .inl (e.tup a vs h)) .inr, RDs.tr e h2⟩
  | .lst ds, v, h => by
    unfold RD at h ⊢
    obtain ⟨a, vs, e1, h1, n, h2⟩ := h
    exact ⟨a, vs, e1, (e.kep a _ h1 n).1, ⟨n.1, (e.kep a _ h1 n).2⟩, RDs.tr e h2⟩
  | .scr ns, v, h => by
    unfold RD at h ⊢
    obtain ⟨a, e1, h1⟩ := h
    rcases h1 with ⟨h1, n⟩ | h1
    · rcases h1 with h1 | ⟨o, h1⟩
      · exact ⟨a, e1, .inl ⟨.inl (e.kep a _ h1 n).1, n.1, (e.kep a _ h1 n).2⟩⟩
      · exact ⟨a, e1, .inl ⟨.inr ⟨o, (e.kep a _ h1 n).1⟩, n.1, (e.kep a _ h1 n).2⟩⟩
    · exact ⟨a, e1, .inr h1⟩
  | .ref k, v, h => by unfold RD at h ⊢; exact h
  | .fn _, _, h => by unfold RD at h ⊢; exact h
  | .clo _ _, _, h => by unfold RD at h ⊢; exact h
theorem RDs.tr {l : List Addr} {H' : Hp} (e : Tr Γ am H l H') : ∀ {ds : List D} {vs : List V}, RDs Γ am H ds vs → RDs (Γ.h l) am H' ds vs
  | [], _, h => by unfold RDs at h ⊢; exact h
  | d :: ds, vs, h => by
    unfold RDs at h ⊢
    obtain ⟨v, r, e1, h1, h2⟩ := h
    exact ⟨v, r, e1, RD.tr e h1, RDs.tr e h2⟩
end
theorem RO.tr {l : List Addr} {H' : Hp} (e : Tr Γ am H l H') (k : H' a = H a) : ∀ {o : O}, RO Γ am H a o → RO (Γ.h l) am H' a o
  | .lst ds, h => by
    obtain ⟨vs, h1, h2⟩ := h
    exact ⟨vs, k.trans h1, h2.tr e⟩
  | .dct _, h => h.elim
  | .ins _ _, h => h.elim
theorem Rel.tr {l : List Addr} {H' : Hp} (e : Tr Γ am H l H') (k : ∀ a ∈ am, H' a = H a) (hl : ∀ a ∈ l, ∃ o, H' a = some o) (r : Rel Γ am S H) : Rel (Γ.h l) am S H' := by
  refine ⟨r.len, r.nd, fun j u q => ?_, hl⟩
  obtain ⟨b, e1, e2⟩ := r.ob j u q
  exact ⟨b, e1, e2.tr e (k b (List.mem_of_getElem? e1))⟩
end
end PI

/-! operators -/
namespace PI
open PySem PySem.Spec PyProof.Rows L2
abbrev WO := Value → Option Addr → Hp → Prop
/-- an error object's form -/
def RX (Γ : Gm) (am : List Addr) (H : Hp) (c : Nat) (fs : List (Nat × D)) (cls : Value) (dx : Option Addr) : Prop := False
def Out {α : Type} (Γ : Gm) (am : List Addr) (H : Hp) (W : WO) (Q : α → Sto → List Addr → Hp → Prop) : R α → Prop
  | .ok a S' => ∀ am' H', Ext am H am' H' → Rel Γ am' S' H' → Q a S' am' H'
  | .exc c fs S' => ∀ am' H' cls dx, Ext am H am' H' → Rel Γ am' S' H' → RX Γ am' H' c fs cls dx → W cls dx H'
  | .bad => False
section
variable {Γ : Gm} {am : List Addr} {H : Hp} {W : WO} {S : Sto}
theorem Out.mono {α : Type} {Q Q' : α → Sto → List Addr → Hp → Prop} {r : R α} (h : Out Γ am H W Q r) (f : ∀ a S' am' H', Ext am H am' H' → Rel Γ am' S' H' → Q a S' am' H' → Q' a S' am' H') : Out Γ am H W Q' r := by
  cases r with
  | ok a S' => exact fun am' H' e r => f a S' am' H' e r (h am' H' e r)
  | exc c fs S' => exact h
  | bad => exact h
theorem Out.bind {α β : Type} {m : M α} {f : α → M β} {Q : β → Sto → List Addr → Hp → Prop} (h : Out Γ am H W Q (M.bind m f S)) :
    Out Γ am H W (fun a S1 am1 H1 => Out Γ am1 H1 W Q (f a S1)) (m S) := by
  unfold M.bind at h
  cases e : m S with
  | ok a S1 =>
    rw [e] at h
    intro am1 H1 e1 r1
    show Out Γ am1 H1 W Q (f a S1)
    have h' : Out Γ am H W Q (f a S1) := h
    cases q : f a S1 with
    | ok b S2 =>
      rw [q] at h'
      exact fun am2 H2 e2 r2 => h' am2 H2 (e1.trans e2) r2
    | exc c fs S2 =>
      rw [q] at h'
      exact fun am2 H2 cls dx e2 r2 x => h' am2 H2 cls dx (e1.trans e2) r2 x
    | bad =>
      rw [q] at h'
      exact h'
  | exc c fs S1 =>
    rw [e] at h
    exact h
  | bad =>
    rw [e] at h
    exact h
theorem Out.later {α : Type} {Q : α → Sto → List Addr → Hp → Prop} {r : R α} {am' : List Addr} {H' : Hp} (h : Out Γ am H W Q r) (e : Ext am H am' H') : Out Γ am' H' W Q r := by
  cases r with
  | ok a S' => exact fun am2 H2 e2 r2 => h am2 H2 (e.trans e2) r2
  | exc c fs S' => exact fun am2 H2 cls dx e2 r2 x => h am2 H2 cls dx (e.trans e2) r2 x
  | bad => exact h
/-- what is wanted of a value -/
abbrev KV (Γ : Gm) (Q : VK) : D → Sto → List Addr → Hp → Prop := fun d _ am H => ∀ v, RD Γ am H d v → Q v H
theorem Out.ret {α : Type} {Q : α → Sto → List Addr → Hp → Prop} {a : α} (r : Rel Γ am S H) (h : Out Γ am H W Q (.ok a S)) : Q a S am H := h am H (.refl _ _) r

theorem deref_tup {d : D} {xs : List D} (e : deref S d = .tup xs) : d = .tup xs := by
  cases d with
  | ref k =>
    simp only [deref] at e
    split at e <;> cases e
  | _ => simpa [deref] using e
theorem deref_int {d : D} {i : Int} (e : deref S d = .int i) : d = .int i := by
  cases d with
  | ref k =>
    simp only [deref] at e
    split at e <;> cases e
  | _ => simpa [deref] using e
theorem deref_str {d : D} {s : List Nat} (e : deref S d = .str s) : d = .str s := by
  cases d with
  | ref k =>
    simp only [deref] at e
    split at e <;> cases e
  | _ => simpa [deref] using e
theorem deref_bl {d : D} {b : Bool} (e : deref S d = .bl b) : d = .bl b := by
  cases d with
  | ref k =>
    simp only [deref] at e
    split at e <;> cases e
  | _ => simpa [deref] using e
theorem deref_non {d : D} (e : deref S d = .non) : d = .non := by
  cases d with
  | ref k =>
    simp only [deref] at e
    split at e <;> cases e
  | _ => simpa [deref] using e
theorem deref_scr {d : D} {ns : List Int} (e : deref S d = .scr ns) : d = .scr ns := by
  cases d with
  | ref k =>
    simp only [deref] at e
    split at e <;> cases e
  | _ => simpa [deref] using e
theorem deref_lst {d : D} {v : V} {xs : List D} (r : Rel Γ am S H) (h : RD Γ am H d v) (e : deref S d = .lst xs) : ∃ a vs, v = .ref a ∧ H a = some (.lst vs) ∧ RDs Γ am H xs vs := by
  cases d with
  | ref k =>
    simp only [deref] at e
    split at e
    · rename_i ys q
      cases e
      unfold RD at h
      obtain ⟨a, ha, rfl⟩ := h
      obtain ⟨b, hb, hr⟩ := r.ob k _ q
      rw [ha] at hb
      cases hb
      obtain ⟨vs, h1, h2⟩ := hr
      exact ⟨a, vs, rfl, h1, h2⟩
    · cases e
  | lst ys =>
    have e' : ys = xs := by simpa [deref] using e
    subst e'
    unfold RD at h
    obtain ⟨a, vs, h1, h2, _, h3⟩ := h
    exact ⟨a, vs, h1, h2, h3⟩
  | _ => simp [deref] at e
theorem RD.tupv {v : V} {xs : List D} (h : RD Γ am H (.tup xs) v) : ∃ a vs, v = .ref a ∧ TpT Γ.K H a vs ∧ RDs Γ am H xs vs := by
  unfold RD at h
  exact h
theorem RD.intv {v : V} {i : Int} (h : RD Γ am H (.int i) v) : v = .int i := by unfold RD at h; exact h
theorem RD.strv {v : V} {s : List Nat} (h : RD Γ am H (.str s) v) : v = .str ⟨s.toArray⟩ := by unfold RD at h; exact h
theorem RD.blv {v : V} {b : Bool} (h : RD Γ am H (.bl b) v) : v = .bl b := by unfold RD at h; exact h
theorem RD.nonv {v : V} (h : RD Γ am H .non v) : v = .non := by unfold RD at h; exact h
theorem lim_eq : lim = sizeLine := by rw [sizeLine_eq]; rfl
/-- a new frozen list -/
theorem new_lst {Q : VK} {ds : List D} {vs : List V} (r : Rel Γ am S H) (h : RDs Γ am H ds vs) (q : Out Γ am H W (KV Γ Q) (.ok (.lst ds) S)) : ∀ p, H p = none → Q (.ref p) (upd H p (.lst vs)) := fun p hp => by
  refine q am _ (Ext.new hp) (r.new hp) _ ?_
  unfold RD
  exact ⟨p, vs, rfl, upd_same, r.out hp, h.ext (Ext.new hp)⟩
theorem new_tup {Q : VK} {ds : List D} {vs : List V} (r : Rel Γ am S H) (h : RDs Γ am H ds vs) (q : Out Γ am H W (KV Γ Q) (.ok (.tup ds) S)) : ∀ p, H p = none → Q (.ref p) (upd H p (.tup vs)) := fun p hp => by
  refine q am _ (Ext.new hp) (r.new hp) _ ?_
  unfold RD
  exact ⟨p, vs, rfl, .inl upd_same, h.ext (Ext.new hp)⟩
theorem out_int {Q : VK} {i : Int} (r : Rel Γ am S H) (q : Out Γ am H W (KV Γ Q) (.ok (.int i) S)) : Q (.int i) H := q am H (.refl _ _) r _ (by unfold RD; rfl)
theorem out_bl {Q : VK} {b : Bool} (r : Rel Γ am S H) (q : Out Γ am H W (KV Γ Q) (.ok (.bl b) S)) : Q (.bl b) H := q am H (.refl _ _) r _ (by unfold RD; rfl)
theorem out_str {Q : VK} {s : List Nat} (r : Rel Γ am S H) (q : Out Γ am H W (KV Γ Q) (.ok (.str s) S)) : Q (.str ⟨s.toArray⟩) H := q am H (.refl _ _) r _ (by unfold RD; rfl)
end
def BOp.opr : BOp → Operator
  | .add => .Add | .sub => .Sub | .mul => .Mult | .fdiv => .FloorDiv | .mod => .Mod | .pow => .Pow
  | .shl => .LShift | .shr => .RShift | .band => .BitAnd | .bor => .BitOr | .bxor => .BitXor
/-- what an operation of two plain values asks -/
def rB (Γ : Gm) (f : D → D → M D) : R2 := fun x y H Q => ∃ (W : WO) (am : List Addr) (S : Sto) (d e : D), Rel Γ am S H ∧ RD Γ am H d x ∧ RD Γ am H e y ∧ Out Γ am H W (KV Γ Q) (f d e S)
theorem str_len (s : List Nat) : (⟨s.toArray⟩ : Str).length = s.length := by
  show s.toArray.size = s.length
  simp
theorem str_app (s t : List Nat) : (⟨s.toArray⟩ : Str) ++ (⟨t.toArray⟩ : Str) = ⟨(s ++ t).toArray⟩ := by
  show (⟨s.toArray ++ t.toArray⟩ : Str) = _
  simp
theorem bits_shl {i j : Int} (h0 : 0 ≤ j) (h1 : j ≤ 1000000) (h2 : bits i ≤ 1000000) : CShl i j := by
  refine ⟨h0, ?_⟩
  have : (Builtin.Int.intBits i : Int) ≤ bits i + 1 := by
    unfold Builtin.Int.intBits bits
    split <;> omega
  omega
theorem cat_tup0 {prog : Program} {w : World} {A : Around} {E : Value → Shared → Prop} {s : Shared} {t b : Addr} {ws : List Value} {Q : Value → Shared → Prop} (ht : IsTup s.heap t ([] : List Value).toArray) (hb : IsTup s.heap b ws.toArray)
    (h1 : Q (.ref b) s) : wpAny (model prog w) A (binaryOp .Add (.ref t) (.ref b)) Q E s := by
  obtain ⟨⟨cls, dd, data, sl⟩, ho, hc, n, hd⟩ := id ht
  obtain ⟨⟨cls2, dd2, data2, sl2⟩, ho2, hc2, n2, hd2⟩ := id hb
  simp only at hc hd hc2 hd2
  subst hc hd hc2 hd2
  exact concat_meets ⟨_, ho, rfl⟩ ⟨_, ho2, rfl⟩ noFill_tuple_add seq_tuple_add PySem.F.slot_tuple_add PySem.F.entry_tuple_add (PySem.F.args_tuple_add_2 _ _)
      (tuple_addW0 t b ([] : List Value).toArray ws.toArray n n2 dd dd2 sl sl2 (by simp)) ⟨ho, ho2, h1⟩
def rCatT0 (K : PySem.W.Frag) : R2 := fun x y H Q => ∃ a b ys, x = .ref a ∧ y = .ref b ∧ SqT K H a [] ∧ SqT K H b ys ∧ Q (.ref b) H
theorem op_catT0 {X : Cx} : OpR X (binaryOp .Add) (rCatT0 X.K) := by
  intro pins s σ H x y v u Q I rx ry h
  obtain ⟨a, b, ys, rfl, rfl, ha, hb, q⟩ := h
  cases rx
  cases ry
  obtain ⟨its, r1, p1, _⟩ := I.tuple ha
  obtain ⟨its2, r2, p2, _⟩ := I.tuple hb
  cases r1
  exact cat_tup0 p1 p2 ⟨.ref b, H, I, rfl, q⟩
def rPowW : R2 := rI (fun i j => 0 ≤ j ∧ (Builtin.Int.intBits i : Int) * j ≤ 2 ^ 27) fun i j => .int (i ^ j.toNat)
theorem op_powW {X : Cx} : OpR X (binaryOp .Pow) rPowW := opI fun _ _ _ _ _ _ _ hc q => pow_int hc.1 hc.2 q
theorem bits_lt {i : Int} (h : bits i < 64) : -(2 ^ 64) < i ∧ i < 2 ^ 64 := by
  unfold bits at h
  have : i.natAbs < 2 ^ 64 := by
    by_cases e : i.natAbs = 0
    · rw [e]; decide
    · exact (Nat.log2_lt e).mp h
  omega
def mulX (i j : Int) : Prop := bits i + bits j < 1000000 ∨ bits i < 64 ∨ bits j < 64
theorem mulX_ok {i j : Int} (h : mulX i j) : IntMulOk i j := by
  rcases h with h | h | h
  · exact CMulW.ok h
  · exact CMul.ok (.inl (bits_lt h))
  · exact CMul.ok (.inr (bits_lt h))
theorem op_mulX {X : Cx} : OpR X (binaryOp .Mult) (rI mulX fun i j => .int (i * j)) := opI fun _ _ _ _ _ _ _ hc q => mul_int q (mulX_ok hc)
theorem bin_ok {X : Cx} {Γ : Gm} (hK : Γ.K = X.K) (op : BOp) : OpR X (binaryOp op.opr) (rB Γ (binop op)) := by
  intro pins s σ H x y v u Q I rx ry h
  obtain ⟨W, am, S, d, e, r, hd, he, q⟩ := h
  unfold binop at q
  split at q
  all_goals try (exact False.elim q)
  all_goals (rename_i e1 e2)
  · rw [deref_int e1] at hd; rw [deref_int e2] at he
    exact op_add pins s σ H x y v u Q I rx ry ⟨_, _, hd.intv, he.intv, out_int r q⟩
  · rw [deref_str e1] at hd; rw [deref_str e2] at he
    split at q
    · rename_i hl
      exact op_add_str pins s σ H x y v u Q I rx ry ⟨_, _, hd.strv, he.strv, by rw [str_len, str_len, ← lim_eq]; exact hl, by rw [str_app]; exact out_str r q⟩
    · exact q.elim
  · obtain ⟨a, vs, rfl, h1, h2⟩ := deref_lst r hd e1
    obtain ⟨b, us, rfl, h3, h4⟩ := deref_lst r he e2
    split at q
    · rename_i hl
      exact op_cat pins s σ H _ _ v u Q I rx ry ⟨a, b, vs, us, rfl, rfl, h1, h3, by rw [h2.length, h4.length, ← lim_eq]; exact hl, new_lst r (h2.append h4) q⟩
    · exact q.elim
  · rw [deref_tup e1] at hd; rw [deref_tup e2] at he
    obtain ⟨a, vs, rfl, h1, h2⟩ := hd.tupv
    obtain ⟨b, us, rfl, h3, h4⟩ := he.tupv
    split at q
    · rename_i hl
      have sa : SqT X.K H a vs := hK ▸ h1.sq
      have sb : SqT X.K H b us := hK ▸ h3.sq
      by_cases hx : vs = []
      · subst hx
        obtain rfl := List.eq_nil_of_length_eq_zero h2.length.symm
        refine op_catT0 pins s σ H _ _ v u Q I rx ry ⟨a, b, us, rfl, rfl, sa, sb, ?_⟩
        rw [List.nil_append] at q
        exact q am H (.refl _ _) r _ he
      · refine op_catT pins s σ H _ _ v u Q I rx ry ⟨a, b, vs, us, rfl, rfl, sa, sb, hx, by rw [h2.length, h4.length, ← lim_eq]; exact hl, fun hy => ?_, fun _ => new_tup r (h2.append h4) q⟩
        subst hy
        obtain rfl := List.eq_nil_of_length_eq_zero h4.length.symm
        rw [List.append_nil] at q
        exact q am H (.refl _ _) r _ hd
    · exact q.elim
  · rw [deref_int e1] at hd; rw [deref_int e2] at he
    exact op_sub pins s σ H x y v u Q I rx ry ⟨_, _, hd.intv, he.intv, out_int r q⟩
  · rw [deref_int e1] at hd; rw [deref_int e2] at he
    split at q
    · rename_i hc
      exact op_mulX pins s σ H x y v u Q I rx ry ⟨_, _, hd.intv, he.intv, hc, out_int r q⟩
    · exact q.elim
  · obtain ⟨a, vs, rfl, h1, h2⟩ := deref_lst r hd e1
    rw [deref_int e2] at he
    split at q
    · rename_i hc
      refine op_rep pins s σ H _ _ v u Q I rx ry ⟨a, _, vs, rfl, he.intv, h1, by omega, by omega, by rw [h2.length, ← lim_eq]; exact hc.2.2, new_lst r (h2.rep _) q⟩
    · exact q.elim
  · rw [deref_tup e1] at hd; rw [deref_int e2] at he
    obtain ⟨a, vs, rfl, h1, h2⟩ := hd.tupv
    split at q
    · rename_i hc
      refine op_repT pins s σ H _ _ v u Q I rx ry ⟨a, _, vs, rfl, he.intv, hK ▸ h1.sq, fun e => hc.2.2.2 (List.eq_nil_of_length_eq_zero (by rw [← h2.length, e]; rfl)), hc.1, hc.2.1, by rw [h2.length]; exact hc.2.2.1, new_tup r (h2.rep _) q⟩
    · exact q.elim
  · rw [deref_int e1] at hd; rw [deref_int e2] at he
    split at q
    · rename_i hc
      exact op_fdivW pins s σ H x y v u Q I rx ry ⟨_, _, hd.intv, he.intv, hc, out_int r q⟩
    · exact q.elim
  · rw [deref_int e1] at hd; rw [deref_int e2] at he
    split at q
    · rename_i hc
      exact op_mod pins s σ H x y v u Q I rx ry ⟨_, _, hd.intv, he.intv, hc, out_int r q⟩
    · exact q.elim
  · rw [deref_int e1] at hd; rw [deref_int e2] at he
    split at q
    · rename_i hc
      exact op_powW pins s σ H x y v u Q I rx ry ⟨_, _, hd.intv, he.intv, hc, out_int r q⟩
    · exact q.elim
  · rw [deref_int e1] at hd; rw [deref_int e2] at he
    split at q
    · rename_i hc
      exact op_shlW pins s σ H x y v u Q I rx ry ⟨_, _, hd.intv, he.intv, bits_shl hc.1 hc.2.1 hc.2.2, out_int r q⟩
    · exact q.elim
  · rw [deref_int e1] at hd; rw [deref_int e2] at he
    split at q
    · rename_i hc
      exact op_shr pins s σ H x y v u Q I rx ry ⟨_, _, hd.intv, he.intv, hc, out_int r q⟩
    · exact q.elim
  · rw [deref_int e1] at hd; rw [deref_int e2] at he
    exact op_and pins s σ H x y v u Q I rx ry ⟨_, _, hd.intv, he.intv, out_int r q⟩
  · rw [deref_int e1] at hd; rw [deref_int e2] at he
    exact op_or pins s σ H x y v u Q I rx ry ⟨_, _, hd.intv, he.intv, out_int r q⟩
  · rw [deref_int e1] at hd; rw [deref_int e2] at he
    exact op_xor pins s σ H x y v u Q I rx ry ⟨_, _, hd.intv, he.intv, out_int r q⟩

/-! ### comparisons -/
mutual
theorem pl_can : ∀ (n : Nat) (d : D), pl n d = true → (toPy d).canLay0 = true ∧ (toPy d).depth ≤ n
  | _, .non, _ => ⟨by simp [toPy, PyData.canLay0], by simp [toPy, PyData.depth]⟩
  | _, .bl _, _ => ⟨by simp [toPy, PyData.canLay0], by simp [toPy, PyData.depth]⟩
  | _, .int _, _ => ⟨by simp [toPy, PyData.canLay0], by simp [toPy, PyData.depth]⟩
  | n, .str s, h => by
    refine ⟨?_, by simp [toPy, PyData.depth]⟩
    have h' : (s.all fun c => decide (c < 1114112)) = true := by cases n <;> simpa [pl] using h
    simpa [toPy, PyData.canLay0, PyData.strOk] using h'
  | 0, .tup _, h => by simp [pl] at h
  | 0, .lst _, h => by simp [pl] at h
  | n + 1, .tup xs, h => by
    have h' : pls n xs = true := by simpa [pl] using h
    obtain ⟨h1, h2⟩ := pls_can n xs h'
    exact ⟨by simpa [toPy, PyData.canLay0] using h1, by simp only [toPy, PyData.depth]; omega⟩
  | n + 1, .lst xs, h => by
    have h' : pls n xs = true := by simpa [pl] using h
    obtain ⟨h1, h2⟩ := pls_can n xs h'
    exact ⟨by simpa [toPy, PyData.canLay0] using h1, by simp only [toPy, PyData.depth]; omega⟩
  | 0, .scr _, h => by simp [pl] at h
  | n + 1, .scr _, h => by simp [pl] at h
  | 0, .ref _, h => by simp [pl] at h
  | n + 1, .ref _, h => by simp [pl] at h
  | 0, .fn _, h => by simp [pl] at h
  | n + 1, .fn _, h => by simp [pl] at h
  | 0, .clo _ _, h => by simp [pl] at h
  | n + 1, .clo _ _, h => by simp [pl] at h
theorem pls_can : ∀ (n : Nat) (ds : List D), pls n ds = true → PyData.canLayAll0 (toPys ds) = true ∧ PyData.depthAll (toPys ds) ≤ n
  | n, [], _ => ⟨by simp [toPys, PyData.canLayAll0], by simp [toPys, PyData.depthAll]⟩
  | n, d :: ds, h => by
    have h' : pl n d = true ∧ pls n ds = true := by simpa [pls] using h
    obtain ⟨h1, h2⟩ := pl_can n d h'.1
    obtain ⟨h3, h4⟩ := pls_can n ds h'.2
    exact ⟨by simp [toPys, PyData.canLayAll0, h1, h3], by simp only [toPys, PyData.depthAll]; omega⟩
end
theorem pl_shaped {d : D} (h : pl 12 d = true) : SeqAt.shaped (toPy d) = true := by
  obtain ⟨h1, h2⟩ := pl_can 12 d h
  simp only [SeqAt.shaped, h1, Bool.true_and]
  exact decide_eq_true (by omega)
section
variable {Γ : Gm} {am : List Addr} {H : Hp} {W : WO} {S : Sto}
mutual
theorem RD.dp : ∀ {n : Nat} {d : D} {v : V}, pl n d = true → RD Γ am H d v → Dp Γ.K H v (toPy d)
  | _, .non, _, _, h => by rw [h.nonv]; exact .non
  | _, .bl _, _, _, h => by rw [h.blv]; exact .bl _
  | _, .int _, _, _, h => by rw [h.intv]; exact .int _
  | _, .str _, _, _, h => by rw [h.strv]; exact .str _
  | 0, .tup _, _, p, _ => by simp [pl] at p
  | 0, .lst _, _, p, _ => by simp [pl] at p
  | n + 1, .tup xs, v, p, h => by
    unfold RD at h
    obtain ⟨a, vs, rfl, h1, h2⟩ := h
    exact .tup h1.sq (RDs.dp (by simpa [pl] using p) h2)
  | n + 1, .lst xs, v, p, h => by
    unfold RD at h
    obtain ⟨a, vs, rfl, h1, _, h2⟩ := h
    exact .lst (.of h1) (RDs.dp (by simpa [pl] using p) h2)
  | 0, .scr _, _, p, _ => by simp [pl] at p
  | n + 1, .scr _, _, p, _ => by simp [pl] at p
  | 0, .ref _, _, p, _ => by simp [pl] at p
  | n + 1, .ref _, _, p, _ => by simp [pl] at p
  | 0, .fn _, _, p, _ => by simp [pl] at p
  | n + 1, .fn _, _, p, _ => by simp [pl] at p
  | 0, .clo _ _, _, p, _ => by simp [pl] at p
  | n + 1, .clo _ _, _, p, _ => by simp [pl] at p
theorem RDs.dp : ∀ {n : Nat} {ds : List D} {vs : List V}, pls n ds = true → RDs Γ am H ds vs → DpAll Γ.K H vs (toPys ds)
  | _, [], _, _, h => by
    unfold RDs at h
    rw [h]
    exact .nil
  | n, d :: ds, vs, p, h => by
    have p' : pl n d = true ∧ pls n ds = true := by simpa [pls] using p
    unfold RDs at h
    obtain ⟨v, r, rfl, h1, h2⟩ := h
    exact .cons (RD.dp p'.1 h1) (RDs.dp p'.2 h2)
end
theorem deref_dp {d : D} {v : V} (r : Rel Γ am S H) (h : RD Γ am H d v) (p : pl 12 (deref S d) = true) : Dp Γ.K H v (toPy (deref S d)) := by
  cases d with
  | ref k =>
    cases e : deref S (.ref k) with
    | lst xs =>
      obtain ⟨a, vs, rfl, h1, h2⟩ := deref_lst r h e
      rw [e] at p
      exact .lst (.of h1) (h2.dp (n := 11) (by simpa [pl] using p))
    | _ =>
      rw [e] at p
      first
        | (simp [pl] at p; done)
        | (simp only [deref] at e; split at e <;> cases e; done)
  | _ => exact h.dp p
theorem flat_v {d : D} {v : V} (f : flat d = true) (h : RD Γ am H d v) : flatV v = true := by
  cases d <;> simp [flat] at f
  · rw [h.nonv]; rfl
  · rw [h.blv]; rfl
  · rw [h.intv]; rfl
  · rw [h.strv]; rfl
theorem flats_v : ∀ {ds : List D} {vs : List V}, ds.all flat = true → RDs Γ am H ds vs → vs.all flatV = true
  | [], _, _, h => by unfold RDs at h; rw [h]; rfl
  | d :: ds, vs, f, h => by
    unfold RDs at h
    obtain ⟨v, r, rfl, h1, h2⟩ := h
    rw [List.all_cons, Bool.and_eq_true] at f
    rw [List.all_cons, flat_v f.1 h1, flats_v f.2 h2]
    rfl
theorem str_beq (s t : List Nat) : ((⟨s.toArray⟩ : Str) == ⟨t.toArray⟩) = (s == t) := by
  by_cases e : s = t
  · subst e
    simp
  · rw [beq_eq_false_iff_ne.mpr e]
    refine beq_eq_false_iff_ne.mpr fun z => e ?_
    have := congrArg (fun q : Str => q.cps.toList) z
    simpa using this
theorem flat_eq {d e : D} {v u : V} (f : flat d = true) (g : flat e = true) (h : RD Γ am H d v) (k : RD Γ am H e u) : eqV v u = deq d e := by
  cases d <;> simp [flat] at f <;> cases e <;> simp [flat] at g <;>
    first
    | (rw [h.nonv, k.nonv]; rfl)
    | (rw [h.nonv, k.blv]; rfl)
    | (rw [h.nonv, k.intv]; rfl)
    | (rw [h.nonv, k.strv]; rfl)
    | (rw [h.blv, k.nonv]; rfl)
    | (rw [h.blv, k.blv]; rfl)
    | (rw [h.blv, k.intv]; rfl)
    | (rw [h.blv, k.strv]; rfl)
    | (rw [h.intv, k.nonv]; rfl)
    | (rw [h.intv, k.blv]; rfl)
    | (rw [h.intv, k.intv]; rfl)
    | (rw [h.intv, k.strv]; rfl)
    | (rw [h.strv, k.nonv]; rfl)
    | (rw [h.strv, k.blv]; rfl)
    | (rw [h.strv, k.intv]; rfl)
    | (rw [h.strv, k.strv]; rfl)
theorem in_eq {x : D} {u : V} (fx : flat x = true) (hx : RD Γ am H x u) : ∀ {ds : List D} {vs : List V}, ds.all flat = true → RDs Γ am H ds vs → inV u vs = ds.any fun y => deq y x
  | [], _, _, h => by unfold RDs at h; rw [h]; rfl
  | d :: ds, vs, f, h => by
    unfold RDs at h
    obtain ⟨v, r, rfl, h1, h2⟩ := h
    rw [List.all_cons, Bool.and_eq_true] at f
    have ih := in_eq fx hx f.2 h2
    unfold inV at ih ⊢
    rw [List.any_cons, List.any_cons, ih, flat_eq f.1 fx h1 hx]
end

def COp.opr : COp → CmpOp
  | .eq => .Eq | .ne => .NotEq | .lt => .Lt | .le => .LtE | .gt => .Gt | .ge => .GtE | .is => .Is | .isn => .IsNot | .inn => .In | .nin => .NotIn
def cmpD (op : COp) (d e : D) : M D := (cmpop op d e).bind fun b => .ret (.bl b)
section
variable {X : Cx} {Γ : Gm} {W : WO}
theorem outO {am : List Addr} {H : Hp} {S : Sto} {Q : VK} {o : Option Bool} (h : Out Γ am H W (KV Γ Q) ((M.bind (M.opt o) fun b => M.ret (.bl b)) S)) : ∃ b, o = some b ∧ Out Γ am H W (KV Γ Q) (.ok (.bl b) S) := by
  cases o with
  | none => exact h.elim
  | some b => exact ⟨b, rfl, h⟩
theorem is_bool {pins : List (Addr × Obj)} {s : Shared} {σ : L2.St} {H : Hp} {x : V} {v : Value} {b : Bool} {Q : VK} (I : Inv X pins σ H s) (rx : RelV x v) (q : Q (.bl (decide (x = .bl b))) H) :
    wpAny (model X.prog X.w) X.A (compareOp .Is v (.bool b)) (EP X pins σ Q) X.xe s := by
  have hp : plainIs v (.bool b) = true := by
    cases x <;> first | (cases rx; rfl) | (obtain ⟨t, rfl⟩ := rx; rfl)
  refine wpAny_is_plain hp (fin_bl I q ?_)
  cases x with
  | bl c =>
    cases rx
    cases b <;> cases c <;> rfl
  | _ => first | (cases rx; rfl) | (obtain ⟨t, rfl⟩ := rx; rfl)
theorem isnot_bool {pins : List (Addr × Obj)} {s : Shared} {σ : L2.St} {H : Hp} {x : V} {v : Value} {b : Bool} {Q : VK} (I : Inv X pins σ H s) (rx : RelV x v) (q : Q (.bl (!decide (x = .bl b))) H) :
    wpAny (model X.prog X.w) X.A (compareOp .IsNot v (.bool b)) (EP X pins σ Q) X.xe s := by
  have hp : plainIs v (.bool b) = true := by
    cases x <;> first | (cases rx; rfl) | (obtain ⟨t, rfl⟩ := rx; rfl)
  refine wpAny_isNot_plain hp (fin_bl I q ?_)
  cases x with
  | bl c =>
    cases rx
    cases b <;> cases c <;> rfl
  | _ => first | (cases rx; rfl) | (obtain ⟨t, rfl⟩ := rx; rfl)
/-- what is no None, no bool, is a value that is none -/
theorem RD.not_non {am : List Addr} {H : Hp} {d : D} {v : V} (hc : ∀ i ds v, Γ.cl i ds v → ∃ a, v = .ref a) (h : RD Γ am H d v) : decide (v = .non) = isNon d := by
  cases d with
  | non => rw [h.nonv]; rfl
  | bl b => rw [h.blv]; rfl
  | int i => rw [h.intv]; rfl
  | str s => rw [h.strv]; rfl
  | tup ds => unfold RD at h; obtain ⟨a, _, rfl, _⟩ := h; rfl
  | lst ds => unfold RD at h; obtain ⟨a, _, rfl, _⟩ := h; rfl
  | scr ns => unfold RD at h; obtain ⟨a, rfl, _⟩ := h; rfl
  | ref k => unfold RD at h; obtain ⟨a, _, rfl⟩ := h; rfl
  | fn f => unfold RD at h; rw [h]; rfl
  | clo i ds => unfold RD at h; obtain ⟨a, rfl⟩ := hc _ _ _ h; rfl
theorem RD.is_bl {am : List Addr} {H : Hp} {d : D} {v : V} {b : Bool} (hc : ∀ i ds v, Γ.cl i ds v → ∃ a, v = .ref a) (h : RD Γ am H d v) : decide (v = .bl b) = isBl b d := by
  cases d with
  | non => rw [h.nonv]; rfl
  | bl c => rw [h.blv]; cases b <;> cases c <;> rfl
  | int i => rw [h.intv]; rfl
  | str s => rw [h.strv]; rfl
  | tup ds => unfold RD at h; obtain ⟨a, _, rfl, _⟩ := h; rfl
  | lst ds => unfold RD at h; obtain ⟨a, _, rfl, _⟩ := h; rfl
  | scr ns => unfold RD at h; obtain ⟨a, rfl, _⟩ := h; rfl
  | ref k => unfold RD at h; obtain ⟨a, _, rfl⟩ := h; rfl
  | fn f => unfold RD at h; rw [h]; rfl
  | clo i ds => unfold RD at h; obtain ⟨a, rfl⟩ := hc _ _ _ h; rfl
theorem cmp_ok (hK : Γ.K = X.K) (hc : ∀ i ds v, Γ.cl i ds v → ∃ a, v = .ref a) (hu : X.A.units + 64 < cLine) (op : COp) : OpR X (compareOp op.opr) (rB Γ (cmpD op)) := by
  intro pins s σ H x y v u Q I rx ry h
  obtain ⟨W, am, S, d, e, r, hd, he, q⟩ := h
  unfold cmpD cmpop at q
  have q1 : Out Γ am H W (KV Γ Q) ((M.bind (M.opt _) fun b => M.ret (.bl b)) S) := q
  obtain ⟨b, e0, q⟩ := outO q1
  have qb := out_bl r q
  split at e0
  · -- ==
    unfold eqM at e0
    dsimp only at e0
    split at e0
    · rename_i hp
      rw [Bool.and_eq_true] at hp
      have eb : deq (deref S d) (deref S e) = b := Option.some.inj e0
      exact op_eqD hu pins s σ H x y v u Q I rx ry ⟨_, _, hK ▸ deref_dp r hd hp.1, hK ▸ deref_dp r he hp.2, pl_shaped hp.1, pl_shaped hp.2, by rw [← eb] at qb; exact qb⟩
    · cases e0
  · unfold eqM at e0
    dsimp only at e0
    split at e0
    · rename_i hp
      rw [Bool.and_eq_true] at hp
      have eb : (!deq (deref S d) (deref S e)) = b := Option.some.inj e0
      exact op_neD hu pins s σ H x y v u Q I rx ry ⟨_, _, hK ▸ deref_dp r hd hp.1, hK ▸ deref_dp r he hp.2, pl_shaped hp.1, pl_shaped hp.2, by rw [← eb] at qb; exact qb⟩
    · cases e0
  · cases e0
    exact op_lt pins s σ H x y v u Q I rx ry ⟨_, _, hd.intv, he.intv, qb⟩
  · cases e0
    exact op_le pins s σ H x y v u Q I rx ry ⟨_, _, hd.intv, he.intv, qb⟩
  · cases e0
    exact op_gt pins s σ H x y v u Q I rx ry ⟨_, _, hd.intv, he.intv, qb⟩
  · cases e0
    exact op_ge pins s σ H x y v u Q I rx ry ⟨_, _, hd.intv, he.intv, qb⟩
  · refine op_isN pins s σ H x y v u Q I rx ry ⟨he.nonv, ?_⟩
    rw [hd.not_non hc, Option.some.inj e0]
    exact qb
  · refine op_notN pins s σ H x y v u Q I rx ry ⟨he.nonv, ?_⟩
    rw [hd.not_non hc]
    rw [Option.some.inj e0]
    exact qb
  · rw [he.blv] at ry
    cases ry
    refine is_bool I rx ?_
    rw [hd.is_bl hc, Option.some.inj e0]
    exact qb
  · rw [he.blv] at ry
    cases ry
    refine isnot_bool I rx ?_
    rw [hd.is_bl hc, Option.some.inj e0]
    exact qb
  · unfold inM at e0
    split at e0
    · rename_i hx
      split at e0
      · rename_i hp
        rw [Bool.and_eq_true] at hp
        have eb := Option.some.inj e0
        rw [deref_tup hx] at he
        obtain ⟨a, vs, rfl, h1, h2⟩ := he.tupv
        refine op_in_seq pins s σ H x _ v u Q I rx ry ⟨a, vs, rfl, .inr (hK ▸ h1.sq), flat_v hp.1 hd, flats_v hp.2 h2, ?_⟩
        rw [in_eq hp.1 hd hp.2 h2, eb]
        exact qb
      · cases e0
    · rename_i hx
      split at e0
      · rename_i hp
        rw [Bool.and_eq_true] at hp
        have eb := Option.some.inj e0
        obtain ⟨a, vs, rfl, h1, h2⟩ := deref_lst r he hx
        refine op_in_seq pins s σ H x _ v u Q I rx ry ⟨a, vs, rfl, .inl (.of h1), flat_v hp.1 hd, flats_v hp.2 h2, ?_⟩
        rw [in_eq hp.1 hd hp.2 h2, eb]
        exact qb
      · cases e0
    · cases e0
  · unfold inM at e0
    split at e0
    · rename_i hx
      split at e0
      · rename_i hp
        rw [Bool.and_eq_true] at hp
        rename_i ys
        have eb : (!(ys.any fun y => deq y d)) = b := Option.some.inj e0
        rw [deref_tup hx] at he
        obtain ⟨a, vs, rfl, h1, h2⟩ := he.tupv
        refine op_notIn_seq pins s σ H x _ v u Q I rx ry ⟨a, vs, rfl, .inr (hK ▸ h1.sq), flat_v hp.1 hd, flats_v hp.2 h2, ?_⟩
        rw [← eb] at qb
        simpa [in_eq hp.1 hd hp.2 h2] using qb
      · cases e0
    · rename_i hx
      split at e0
      · rename_i hp
        rw [Bool.and_eq_true] at hp
        rename_i ys
        have eb : (!(ys.any fun y => deq y d)) = b := Option.some.inj e0
        obtain ⟨a, vs, rfl, h1, h2⟩ := deref_lst r he hx
        refine op_notIn_seq pins s σ H x _ v u Q I rx ry ⟨a, vs, rfl, .inl (.of h1), flat_v hp.1 hd, flats_v hp.2 h2, ?_⟩
        rw [← eb] at qb
        simpa [in_eq hp.1 hd hp.2 h2] using qb
      · cases e0
    · cases e0
  · cases e0
end
end PI

/-! subscripts, built-ins, methods -/
namespace PI
open PySem PySem.Spec PyProof.Rows L2
section
variable {prog : Program} {w : World} {A : Around} {E : Value → Shared → Prop} {s : Shared}
open HT in
theorem tup_whole {t sl : Addr} {items : Array Value} {vl vu : Value} {lo hi : Option Int} {Q : Value → Shared → Prop} (ht : IsTup s.heap t items) (hs : s.heap.IsSliceOf sl vl vu .none) (pl : IsPart vl lo) (pu : IsPart vu hi)
    (hw : sIx items.size 0 lo = 0 ∧ sIx items.size items.size hi = items.size) (h : Q (.ref t) s) : wpAny (model prog w) A (getItem (.ref t) (.ref sl)) Q E s := by
  obtain ⟨os, hos, hcs, hds⟩ := id hs
  have hTs : s.TypeIs (.ref sl) "slice" := ⟨os, hos, hcs⟩
  unfold getItem
  try with_reducible refine wpAny_holding ?_
  first | refine wpAny_bind (wpAny_pure ?_) | skip
  refine wpAny_bind (wpAny_sequenceKey ht.typeIs (by decide) ?_)
  refine wpAny_bind (wpAny_callSpecial?_slot (name := Str.ofString "__getitem__") ht.typeIs PyProof.Rows.slot_tuple_getitem
    (wpAny_call_entry PyProof.Rows.slot_tuple_getitem ht.typeIs entry_tuple_getitem ?_ (args_tuple_getitem _ _)))
  show wpAny _ _ (Builtin.Tuple.tupleItemsOf (.ref t) >>= _) _ _ s
  refine wpAny_bind (tupleItemsOf_ ht ?_)
  refine wpAny_bind (wpAny_typeOf hTs ?_)
  rw [if_pos (by decide)]
  refine wpAny_bind (sliceApplied_gen hs pl pu ?_)
  have hyes : ((((sIx items.size 0 lo : Nat) : Int) == 0 && (1 : Int) == 1 && (sIx items.size items.size hi - sIx items.size 0 lo) == items.size) = true) := by
    rw [hw.1, hw.2]
    simp
  show wpAny _ _ (if (((sIx items.size 0 lo : Nat) : Int) == 0 && (1 : Int) == 1 && (sIx items.size items.size hi - sIx items.size 0 lo) == items.size) = true then _ else _) _ _ s
  rw [if_pos hyes]
  refine wpAny_bind (m := Builtin.Tuple.tupleIsExact (.ref t)) (wpAny_bind (wpAny_typeOf ht.typeIs (wpAny_pure ?_)))
  rw [if_pos (by decide)]
  exact wpAny_bind (wpAny_rule (wpAny_pure ⟨_, rfl, wpAny_pure h⟩))
open HT in
theorem adjust_rev (n : Nat) : Builtin.Slice.sliceAdjust none none (-1) (n : Int) = ((n : Int) - 1, -1) := by
  unfold Builtin.Slice.sliceAdjust
  rfl
theorem places_rev (n : Nat) : Builtin.Slice.slicePlaces ((n : Int) - 1) (-1) (-1) = n := by
  unfold Builtin.Slice.slicePlaces
  rw [if_neg (by decide)]
  have e : -(-1 : Int) = 1 := rfl
  rw [e, Int.ediv_one]
  split <;> omega
theorem filterMap_some {α β : Type} {f : α → Option β} {g : α → β} : ∀ {l : List α}, (∀ m ∈ l, f m = some (g m)) → l.filterMap f = l.map g
  | [], _ => rfl
  | m :: l, h => by
    rw [List.filterMap_cons, h m List.mem_cons_self, List.map_cons, filterMap_some fun k hk => h k (List.mem_cons_of_mem _ hk)]
theorem pick_rev (xs : Array Value) : ((List.range xs.size).filterMap fun (m : Nat) => xs[(((xs.size : Int) - 1) + (m : Int) * (-1)).toNat]?) = xs.toList.reverse := by
  have h1 : ∀ (l : List Value), ((List.range l.length).filterMap fun (m : Nat) => l[(((l.length : Int) - 1) + (m : Int) * (-1)).toNat]?) = l.reverse := by
    intro l
    apply List.ext_getElem?
    intro i
    have e2 : ((List.range l.length).filterMap fun (m : Nat) => l[(((l.length : Int) - 1) + (m : Int) * (-1)).toNat]?) = (List.range l.length).map fun (m : Nat) => l.getD (l.length - 1 - m) Value.none := by
      refine filterMap_some fun m hm => ?_
      have hm' : m < l.length := List.mem_range.mp hm
      have e3 : (((l.length : Int) - 1) + (m : Int) * (-1)).toNat = l.length - 1 - m := by omega
      show l[(((l.length : Int) - 1) + (m : Int) * (-1)).toNat]? = some (l.getD (l.length - 1 - m) Value.none)
      rw [e3, List.getD_eq_getElem?_getD, List.getElem?_eq_getElem (by omega)]
      rfl
    rw [e2, List.getElem?_map]
    by_cases hi : i < l.length
    · rw [List.getElem?_range hi, List.getElem?_reverse hi]
      show some (l.getD (l.length - 1 - i) Value.none) = _
      rw [List.getD_eq_getElem?_getD, List.getElem?_eq_getElem (by omega)]
      rfl
    · rw [List.getElem?_eq_none (by simp; omega), List.getElem?_eq_none (by simp; omega)]
      rfl
  have := h1 xs.toList
  simpa using this
open HT in
theorem tup_rev {t sl : Addr} {items : Array Value} {vl vu vk : Value} {Q : Value → Shared → Prop} (ht : IsTup s.heap t items) (hs : s.heap.IsSliceOf sl vl vu vk) (pl : IsPart vl none) (pu : IsPart vu none) (pk : IsPart vk (some (-1)))
    (h : Q (.ref s.heap.objs.size) { s with heap := s.heap.push { cls := .type "tuple", data := .seq items.toList.reverse.toArray } })
    (hsz : items.size ≤ sizeLine) : wpAny (model prog w) A (getItem (.ref t) (.ref sl)) Q E s := by
  have htake : sizeOk (.seq items.toList.reverse.toArray) := by
    show items.toList.reverse.toArray.size ≤ sizeLine
    rw [List.size_toArray, List.length_reverse, Array.length_toList]
    exact hsz
  obtain ⟨os, hos, hcs, hds⟩ := id hs
  have hTs : s.TypeIs (.ref sl) "slice" := ⟨os, hos, hcs⟩
  unfold getItem
  try with_reducible refine wpAny_holding ?_
  first | refine wpAny_bind (wpAny_pure ?_) | skip
  refine wpAny_bind (wpAny_sequenceKey ht.typeIs (by decide) ?_)
  refine wpAny_bind (wpAny_callSpecial?_slot (name := Str.ofString "__getitem__") ht.typeIs PyProof.Rows.slot_tuple_getitem
    (wpAny_call_entry PyProof.Rows.slot_tuple_getitem ht.typeIs entry_tuple_getitem ?_ (args_tuple_getitem _ _)))
  show wpAny _ _ (Builtin.Tuple.tupleItemsOf (.ref t) >>= _) _ _ s
  refine wpAny_bind (tupleItemsOf_ ht ?_)
  refine wpAny_bind (wpAny_typeOf hTs ?_)
  rw [if_pos (by decide)]
  have ap : ∀ {Q : Int × Int × Nat → Shared → Prop}, Q ((items.size : Int) - 1, -1, items.size) s → wpAny (model prog w) A.in1 (Builtin.Slice.sliceApplied (.ref sl) (pure (items.size : Int))) Q E s := fun {Q} h => by
    unfold Builtin.Slice.sliceApplied Builtin.Slice.sliceFields
    refine wpAny_bind (wpAny_bind (wpAny_field hos hds (x := vl) rfl (wpAny_bind (wpAny_field hos hds (x := vu) rfl (wpAny_bind (wpAny_field hos hds (x := vk) rfl (wpAny_pure ?_)))))))
    refine wpAny_bind (slicePart_ pk ?_)
    show wpAny _ _ (if ((-1 : Int) == 0) = true then _ else _) _ _ s
    rw [if_neg (by decide)]
    refine wpAny_bind (slicePart_ pl (wpAny_bind (slicePart_ pu (wpAny_bind (wpAny_pure ?_)))))
    show wpAny _ _ (match Builtin.Slice.sliceAdjust none none (-1) (items.size : Int) with | (lo, hi) => pure (lo, (-1 : Int), Builtin.Slice.slicePlaces lo hi (-1))) _ _ s
    rw [adjust_rev]
    show wpAny _ _ (pure ((items.size : Int) - 1, (-1 : Int), Builtin.Slice.slicePlaces ((items.size : Int) - 1) (-1) (-1))) _ _ s
    rw [places_rev]
    exact wpAny_pure h
  refine wpAny_bind (ap ?_)
  show wpAny _ _ (if (((items.size : Int) - 1) == 0 && (-1 : Int) == 1 && items.size == items.size) = true then _ else _) _ _ s
  rw [if_neg (by simp), pick_rev]
  first
    | exact wpAny_bind (m := Builtin.Tuple.tupleExact _) (wpAny_newObj_type (wpAny_pure ⟨_, rfl, wpAny_pure h⟩) htake)
    | exact wpAny_bind (m := Builtin.Tuple.tupleExact _) (wpAny_newObj_type (wpAny_bind (wpAny_pure (wpAny_pure ⟨_, rfl, wpAny_pure h⟩))) htake)
    | exact wpAny_bind (wpAny_bind (m := Builtin.Tuple.tupleExact _) (wpAny_newObj_type (wpAny_pure (wpAny_pure ⟨_, rfl, wpAny_pure h⟩)) htake))
    | exact wpAny_bind (wpAny_bind (m := Builtin.Tuple.tupleExact _) (wpAny_newObj_type (wpAny_pure ⟨_, rfl, wpAny_pure h⟩) htake))
end
section
variable {X : Cx} {Γ : Gm} {W : WO}
/-! ### truth -/
def rTru (Γ : Gm) : V → Hp → (Bool → Hp → Prop) → Prop := fun x H Q => ∃ (W : WO) (am : List Addr) (S : Sto) (d : D), Rel Γ am S H ∧ RD Γ am H d x ∧ Out Γ am H W (fun b _ _ H' => Q b H') (truM d S)
theorem tru_v (hK : Γ.K = X.K) {am : List Addr} {H : Hp} {S : Sto} {d : D} {v : V} {b : Bool} (r : Rel Γ am S H) (h : RD Γ am H d v) (e : tru S d = some b) : TruV X.K v H b := by
  unfold tru at e
  split at e
  · rename_i q
    rw [deref_non q] at h
    rw [h.nonv]
    exact (Option.some.inj e).symm
  · rename_i q
    rw [deref_bl q] at h
    rw [h.blv]
    exact (Option.some.inj e).symm
  · rename_i q
    rw [deref_int q] at h
    rw [h.intv]
    exact (Option.some.inj e).symm
  · rename_i s q
    rw [deref_str q] at h
    rw [h.strv]
    split at e
    · rename_i hl
      refine ⟨by rw [str_len, ← lim_eq]; exact hl, ?_⟩
      rw [str_len, ← Option.some.inj e]
      cases s with
      | nil => rfl
      | cons c cs =>
        show true = _
        have : ((List.length (c :: cs) : Nat) : Int) ≠ 0 := by rw [List.length_cons]; omega
        exact (bne_iff_ne.mpr this).symm
    · cases e
  · rename_i xs q
    rw [deref_tup q] at h
    obtain ⟨a, vs, rfl, h1, h2⟩ := h.tupv
    refine .inr (.inl ⟨vs, hK ▸ h1.sq, ?_⟩)
    rw [← Option.some.inj e]
    have := h2.length
    cases vs <;> cases xs <;> first | rfl | simp at this
  · rename_i xs q
    obtain ⟨a, vs, rfl, h1, h2⟩ := deref_lst r h q
    refine .inl ⟨vs, .of h1, ?_⟩
    rw [← Option.some.inj e]
    have := h2.length
    cases vs <;> cases xs <;> first | rfl | simp at this
  · cases e
theorem tru_R (hK : Γ.K = X.K) : TruR X (rTru Γ) := by
  intro pins s σ H x v Q I rx h
  obtain ⟨W, am, S, d, r, hd, q⟩ := h
  unfold truM M.opt at q
  cases e : tru S d with
  | none => rw [e] at q; exact q.elim
  | some b =>
    rw [e] at q
    exact tru_ok pins s σ H x v Q I rx ⟨b, tru_v hK r hd e, q am H (.refl _ _) r⟩
/-! ### subscripts -/
theorem ixN_map {α β : Type} {xs : List α} {ys : List β} (h : ys.length = xs.length) (i : Int) : ixN ys.length i = ixN xs.length i := by rw [h]
theorem RDs.at {am : List Addr} {H : Hp} {xs : List D} {vs : List V} {i : Int} {d : D} (h : RDs Γ am H xs vs) (e : atI xs i = some d) : ∃ v, atI vs i = some v ∧ RD Γ am H d v := by
  unfold atI at e ⊢
  rw [h.length]
  cases q : ixN xs.length i with
  | none => rw [q] at e; cases e
  | some j =>
    rw [q] at e
    exact h.get e
theorem ix_ok (hK : Γ.K = X.K) : IxR X (rB Γ idxop) := by
  intro value slice pins s σ H x y v u Q I rx ry h hs
  obtain ⟨W, am, S, d, e, r, hd, he, q⟩ := h
  unfold idxop M.opt at q
  split at q
  · rename_i o e0
    have fin : ∀ z, RD Γ am H o z → Q z H := fun z hz => q am H (.refl _ _) r z hz
    split at e0
    · rename_i xs i q1
      rw [deref_tup q1] at hd
      obtain ⟨a, vs, rfl, h1, h2⟩ := hd.tupv
      obtain ⟨z, hz, hr⟩ := h2.at e0
      exact ix_tup value slice pins s σ H _ y v u Q I rx ry ⟨a, vs, i, z, rfl, he.intv, hK ▸ h1.sq, hz, fin z hr⟩ hs
    · rename_i xs i q1
      obtain ⟨a, vs, rfl, h1, h2⟩ := deref_lst r hd q1
      obtain ⟨z, hz, hr⟩ := h2.at e0
      exact ix_list value slice pins s σ H _ y v u Q I rx ry ⟨a, vs, i, z, rfl, he.intv, .of h1, hz, fin z hr⟩ hs
    · rename_i t i q1
      rw [deref_str q1] at hd
      split at e0
      · rename_i hl
        cases e1 : atI t i with
        | none => rw [e1] at e0; cases e0
        | some c =>
          rw [e1] at e0
          cases e0
          exact ix_str value slice pins s σ H _ y v u Q I rx ry ⟨_, i, c, hd.strv, he.intv, by rw [str_len, ← lim_eq]; exact hl, by simpa using e1, fin _ (by unfold RD; rfl)⟩ hs
      · cases e0
    · cases e0
  · exact q.elim
/-- xs[lo:hi] -/
def rSlc (Γ : Gm) : V → Option Int → Option Int → Hp → VK → Prop := fun x lo hi H Q => ∃ (W : WO) (am : List Addr) (S : Sto) (d : D), Rel Γ am S H ∧ RD Γ am H d x ∧ Out Γ am H W (KV Γ Q) (slcop d lo hi S)
theorem sl_tup0 : SlR X (fun x lo hi H Q => ∃ a xs, x = .ref a ∧ SqT X.K H a xs ∧ (HT.sIx xs.length 0 lo = 0 ∧ HT.sIx xs.length xs.length hi = xs.length) ∧ Q (.ref a) H) := by
  intro pins s σ H x v vl vu lo hi sl Q I rx hs pl pu h
  obtain ⟨a, xs, rfl, hx, hw, q⟩ := h
  cases rx
  obtain ⟨its, r, ht, hz⟩ := I.tuple hx
  have hlen : its.toArray.size = xs.length := by rw [List.size_toArray]; exact r.length.symm
  exact ⟨"tuple", _, PyProof.Rows.slot_tuple_getitem.lookup, ht.typeIs, tup_whole ht hs pl pu (by rw [hlen]; exact hw) ⟨.ref a, H, I, rfl, q⟩⟩
theorem RDs.cut {am : List Addr} {H : Hp} {xs : List D} {vs : List V} (h : RDs Γ am H xs vs) (lo hi : Option Int) : RDs Γ am H (cutL xs lo hi) (cutV vs lo hi) := by
  unfold cutL cutV
  rw [h.length]
  exact (h.drop _).take _
theorem RDs.scr {am : List Addr} {H : Hp} : ∀ ns : List Int, RDs Γ am H (ns.map D.int) (ns.map V.int)
  | [] => RDs.nil
  | n :: ns => RDs.cons (by unfold RD; rfl) (RDs.scr ns)
theorem cut_whole {α : Type} {xs : List α} {lo hi : Option Int} (h : HT.sIx xs.length 0 lo = 0 ∧ HT.sIx xs.length xs.length hi = xs.length) : cutL xs lo hi = xs := by
  unfold cutL
  rw [h.1, h.2]
  simp
theorem sl_ok (hK : Γ.K = X.K) : SlR X (rSlc Γ) := by
  intro pins s σ H x v vl vu lo hi sl Q I rx hs pl pu h
  obtain ⟨W, am, S, d, r, hd, q⟩ := h
  unfold slcop M.opt at q
  split at q
  · rename_i o e0
    split at e0
    · rename_i xs q1
      cases e0
      rw [deref_tup q1] at hd
      obtain ⟨a, vs, rfl, h1, h2⟩ := hd.tupv
      by_cases hw : HT.sIx vs.length 0 lo = 0 ∧ HT.sIx vs.length vs.length hi = vs.length
      · refine sl_tup0 pins s σ H _ v vl vu lo hi sl Q I rx hs pl pu ⟨a, vs, rfl, hK ▸ h1.sq, hw, q am H (.refl _ _) r _ ?_⟩
        rw [cut_whole (by rw [← h2.length]; exact hw)]
        exact hd
      · exact sl_tup pins s σ H _ v vl vu lo hi sl Q I rx hs pl pu ⟨a, vs, rfl, hK ▸ h1.sq, hw, new_tup r (h2.cut lo hi) q⟩
    · rename_i xs q1
      cases e0
      obtain ⟨a, vs, rfl, h1, h2⟩ := deref_lst r hd q1
      exact sl_list pins s σ H _ v vl vu lo hi sl Q I rx hs pl pu ⟨a, vs, rfl, .of h1, new_lst r (h2.cut lo hi) q⟩
    · rename_i ns q1
      cases e0
      rw [deref_scr q1] at hd
      unfold RD at hd
      obtain ⟨a, rfl, h1⟩ := hd
      have hS : SqL X.K H a (ns.map V.int) := by
        rcases h1 with h1 | h1
        · exact .inl h1.1
        · exact .inr (hK ▸ h1)
      exact sl_list pins s σ H _ v vl vu lo hi sl Q I rx hs pl pu ⟨a, _, rfl, hS, new_lst r ((RDs.scr ns).cut lo hi) q⟩
    · rename_i t q1
      rw [deref_str q1] at hd
      split at e0
      · rename_i hl
        cases e0
        refine sl_str pins s σ H _ v vl vu lo hi sl Q I rx hs pl pu ⟨_, hd.strv, by rw [str_len, ← lim_eq]; exact hl, ?_⟩
        have : cutS ⟨t.toArray⟩ lo hi = ⟨(cutL t lo hi).toArray⟩ := by
          unfold cutS cutL
          rw [str_len]
        rw [this]
        exact out_str r q
      · cases e0
    · cases e0
  · exact q.elim

/-! ### a[::-1] -/
theorem revA_ok {e : Expr} {te : TE} {k : Nat} {p1 p2 p3 pos : Pos} (he : PE X e te) :
    PE X (.Subscript e (.Slice none none (some (.UnaryOp .USub (.Constant (.int 1) k p1) p2)) p3) pos) (fun σ H Q => te σ H fun x H1 => ∃ a xs, x = .ref a ∧ ((SqL X.K H1 a xs ∧ ∀ p, H1 p = none → Q (.ref p) (upd H1 p (.lst xs.reverse))) ∨ (SqT X.K H1 a xs ∧ ∀ p, H1 p = none → Q (.ref p) (upd H1 p (.tup xs.reverse))))) := by
  refine ⟨fun pins s σ H Q I h => ?_⟩
  refine Subscript_ (thn (he.run pins s σ H _ I h) fun v s1 ⟨x, H1, I1, r1, q1⟩ => ?_)
  obtain ⟨a, xs, ex, q⟩ := q1
  subst ex
  cases r1
  have hst : PO X (some (.UnaryOp .USub (.Constant (.int 1) k p1) p2)) (tPart (tUn (rU fun i => .int (-i)) (tC (.int 1)))) := po_some (pe_un un_neg pe_int)
  refine wpAny_Slice (thn (po_none.run pins s1 σ H1 (fun o H2 => o = none ∧ H2 = H1) I1 ⟨rfl, rfl⟩) fun vl s2 ⟨l, H2, I2, pl, el, e2⟩ => ?_)
  subst el e2
  refine thn (po_none.run pins s2 σ H2 (fun o H3 => o = none ∧ H3 = H2) I2 ⟨rfl, rfl⟩) fun vu s3 ⟨u, H3, I3, pu, eu, e3⟩ => ?_
  subst eu e3
  refine thn (hst.run pins s3 σ H3 (fun o H4 => o = some (-1) ∧ H4 = H3) I3 ⟨1, rfl, -1, rfl, rfl, rfl⟩) fun vs s4 ⟨o, H4, I4, ps, eo, e4⟩ => ?_
  subst eo e4
  have I5 : Inv X pins σ H4 { s4 with heap := s4.heap.push { cls := .type "slice", data := .fields #[vl, vu, vs] } } := I4.kept (t' := s4.toks) fun b ob q => Heap.get?_push_of_some _ q
  show wpAny (model X.prog X.w) X.A (subscriptTail e (.Slice none none (some (.UnaryOp .USub (.Constant (.int 1) k p1) p2)) p3) (.ref a) (.ref s4.heap.objs.size)) (EP X pins σ Q) X.xe { s4 with heap := s4.heap.push { cls := .type "slice", data := .fields #[vl, vu, vs] } }
  rcases q with ⟨hx, q⟩ | ⟨hx, q⟩
  · obtain ⟨its, r, ht, hz⟩ := I5.list hx
    have hlen := r.length
    refine tail_any (ops := [.ref a, .ref s4.heap.objs.size]) ht.isList.typeIs (PySem.slot_list_getitem.lookup) ?_ (by with_unfolding_all rfl)
    refine wpAny_getItem_list_slice ht.isList (Heap.IsSliceOf.new _ vl vu vs) pl pu ps (by decide) ?_ (by rw [List.size_toArray]; omega)
    rw [PySem.W.krv_pick]
    refine ⟨.ref _, _, I5.laid (t' := s4.toks) (o := .lst xs.reverse) (fun b ob q => Heap.get?_push_of_some _ q) (Nat.le_refl _) ?_, rfl, q _ (I5.hok.fresh (Nat.le_refl _))⟩
    exact ⟨by rw [List.length_reverse]; exact hz, _, 0, r.reverse, Heap.get?_push_size _ rfl⟩
  · obtain ⟨its, r, ht, hz⟩ := I5.tuple hx
    have hlen := r.length
    refine tail_any (ops := [.ref a, .ref s4.heap.objs.size]) ht.typeIs (PyProof.Rows.slot_tuple_getitem.lookup) ?_ (by with_unfolding_all rfl)
    refine tup_rev ht (Heap.IsSliceOf.new _ vl vu vs) pl pu ps ?_ (by rw [List.size_toArray]; omega)
    refine ⟨.ref _, _, I5.laid (t' := s4.toks) (o := .tup xs.reverse) (fun b ob q => Heap.get?_push_of_some _ q) (Nat.le_refl _) ?_, rfl, q _ (I5.hok.fresh (Nat.le_refl _))⟩
    refine ⟨by rw [List.length_reverse]; exact hz, its.reverse, r.reverse, ?_⟩
    have := IsTup.new (h := { s4 with heap := s4.heap.push { cls := .type "slice", data := .fields #[vl, vu, vs] } }.heap) its.reverse.toArray
    simpa using this

/-! ### built-in functions -/
def BI.val : BI → Value
  | .abs => .builtin "abs" | .len => .builtin "len" | .int => .type "int" | .max => .builtin "max" | .min => .builtin "min"
  | .sum => .builtin "sum" | .all => .builtin "all" | .any => .builtin "any" | .tuple => .type "tuple" | .list => .type "list"
  | .sorted => .builtin "sorted" | .str => .type "str" | .isi _ => .builtin "isinstance"
/-- what a call of plain values asks -/
def rL (Γ : Gm) (f : List D → M D) : List V → Hp → VK → Prop := fun xs H Q => ∃ (W : WO) (am : List Addr) (S : Sto) (ds : List D), Rel Γ am S H ∧ RDs Γ am H ds xs ∧ Out Γ am H W (KV Γ Q) (f ds S)
theorem intL_cons {d : D} {ds : List D} {ns : List Int} (e : intL (d :: ds) = some ns) : ∃ i ms, d = .int i ∧ intL ds = some ms ∧ ns = i :: ms := by
  unfold intL at e
  rw [List.mapM_cons] at e
  cases d with
  | int i =>
    cases q : List.mapM toInt ds with
    | none => rw [q] at e; cases e
    | some ms =>
      rw [q] at e
      exact ⟨i, ms, rfl, q, (Option.some.inj e).symm⟩
  | _ => cases e
theorem intL_v {am : List Addr} {H : Hp} : ∀ {ds : List D} {vs : List V} {ns : List Int}, intL ds = some ns → RDs Γ am H ds vs → vs = ns.map V.int
  | [], _, ns, e, h => by
    have : ns = [] := (Option.some.inj e).symm
    subst this
    unfold RDs at h
    exact h
  | d :: ds, vs, ns, e, h => by
    obtain ⟨i, ms, rfl, e2, rfl⟩ := intL_cons e
    unfold RDs at h
    obtain ⟨v, r, rfl, h1, h2⟩ := h
    rw [h1.intv, intL_v e2 h2]
    rfl
theorem boolL_v {am : List Addr} {H : Hp} : ∀ {ds : List D} {vs : List V} {ns : List Bool}, boolL ds = some ns → RDs Γ am H ds vs → vs = ns.map V.bl
  | [], _, ns, e, h => by
    have : ns = [] := (Option.some.inj e).symm
    subst this
    unfold RDs at h
    exact h
  | d :: ds, vs, ns, e, h => by
    unfold boolL at e
    rw [List.mapM_cons] at e
    cases d with
    | bl b =>
      cases q : List.mapM toBl ds with
      | none => rw [q] at e; cases e
      | some ms =>
        rw [q] at e
        have : ns = b :: ms := (Option.some.inj e).symm
        subst this
        unfold RDs at h
        obtain ⟨v, r, rfl, h1, h2⟩ := h
        rw [h1.blv, boolL_v (ds := ds) q h2]
        rfl
    | _ => cases e
theorem maxL_mem : ∀ (m : Int) (l : List Int), maxL m l ∈ m :: l
  | m, [] => List.mem_cons_self
  | m, x :: l => by
    unfold maxL
    have := maxL_mem (if x > m then x else m) l
    rcases List.mem_cons.mp this with h | h
    · rw [h]
      split
      · exact List.mem_cons_of_mem _ List.mem_cons_self
      · exact List.mem_cons_self
    · exact List.mem_cons_of_mem _ (List.mem_cons_of_mem _ h)
theorem maxL_ge : ∀ (m : Int) (l : List Int), ∀ y ∈ m :: l, y ≤ maxL m l
  | m, [], y, h => by
    rw [List.mem_singleton.mp h]
    exact Int.le_refl _
  | m, x :: l, y, h => by
    unfold maxL
    have ih := maxL_ge (if x > m then x else m) l
    have h0 := ih _ List.mem_cons_self
    rcases List.mem_cons.mp h with rfl | h
    · split at h0 <;> split <;> omega
    · rcases List.mem_cons.mp h with rfl | h
      · split at h0 <;> split <;> omega
      · exact ih y (List.mem_cons_of_mem _ h)
theorem minL_mem : ∀ (m : Int) (l : List Int), minL m l ∈ m :: l
  | m, [] => List.mem_cons_self
  | m, x :: l => by
    unfold minL
    have := minL_mem (if x < m then x else m) l
    rcases List.mem_cons.mp this with h | h
    · rw [h]
      split
      · exact List.mem_cons_of_mem _ List.mem_cons_self
      · exact List.mem_cons_self
    · exact List.mem_cons_of_mem _ (List.mem_cons_of_mem _ h)
theorem minL_le : ∀ (m : Int) (l : List Int), ∀ y ∈ m :: l, minL m l ≤ y
  | m, [], y, h => by
    rw [List.mem_singleton.mp h]
    exact Int.le_refl _
  | m, x :: l, y, h => by
    unfold minL
    have ih := minL_le (if x < m then x else m) l
    have h0 := ih _ List.mem_cons_self
    rcases List.mem_cons.mp h with rfl | h
    · split at h0 <;> split <;> omega
    · rcases List.mem_cons.mp h with rfl | h
      · split at h0 <;> split <;> omega
      · exact ih y (List.mem_cons_of_mem _ h)
theorem insI_perm (x : Int) : ∀ l : List Int, (insI x l).Perm (x :: l)
  | [] => .refl _
  | y :: l => by
    unfold insI
    split
    · exact .refl _
    · exact ((insI_perm x l).cons y).trans (.swap _ _ _)
theorem sortI_perm : ∀ l : List Int, (sortI l).Perm l
  | [] => .refl _
  | x :: l => (insI_perm x (sortI l)).trans ((sortI_perm l).cons x)
theorem insI_pw (x : Int) : ∀ l : List Int, l.Pairwise (· ≤ ·) → (insI x l).Pairwise (· ≤ ·)
  | [], _ => by simp [insI]
  | y :: l, h => by
    obtain ⟨h1, h2⟩ := List.pairwise_cons.mp h
    unfold insI
    split
    · rename_i hx
      refine List.pairwise_cons.mpr ⟨fun z hz => ?_, h⟩
      rcases List.mem_cons.mp hz with rfl | hz
      · exact hx
      · exact Int.le_trans hx (h1 z hz)
    · rename_i hx
      refine List.pairwise_cons.mpr ⟨fun z hz => ?_, insI_pw x l h2⟩
      rcases List.mem_cons.mp ((insI_perm x l).mem_iff.mp hz) with rfl | hz
      · omega
      · exact h1 z hz
theorem sortI_pw : ∀ l : List Int, (sortI l).Pairwise (· ≤ ·)
  | [] => .nil
  | x :: l => insI_pw x _ (sortI_pw l)
def Ty.nm : Ty → String
  | .int => "int" | .bool => "bool" | .str => "str" | .tup => "tuple" | .lst => "list"
theorem isi_ok (hK : Γ.K = X.K) (t : Ty) {am : List Addr} {H : Hp} {S : Sto} {d : D} {v : V} {b : Bool} (r : Rel Γ am S H) (h : RD Γ am H d v) (e : tyIs t (deref S d) = some b) :
    ∃ ty, TyX X.K H v (.type ty) ∧ PySem.W.kitOne X.K (.type ty) (.type t.nm) = some b := by
  cases q : deref S d with
  | non =>
    rw [deref_non q] at h
    rw [q] at e
    rw [h.nonv]
    refine ⟨_, .base .non, ?_⟩
    cases t <;> cases e <;> exact kit_ty (by decide +kernel)
  | bl c =>
    rw [deref_bl q] at h
    rw [q] at e
    rw [h.blv]
    refine ⟨_, .base (.bl _), ?_⟩
    cases t <;> cases e <;> exact kit_ty (by decide +kernel)
  | int i =>
    rw [deref_int q] at h
    rw [q] at e
    rw [h.intv]
    refine ⟨_, .base (.int _), ?_⟩
    cases t <;> cases e <;> exact kit_ty (by decide +kernel)
  | str s =>
    rw [deref_str q] at h
    rw [q] at e
    rw [h.strv]
    refine ⟨_, .base (.str _), ?_⟩
    cases t <;> cases e <;> exact kit_ty (by decide +kernel)
  | tup xs =>
    rw [deref_tup q] at h
    rw [q] at e
    obtain ⟨a, vs, rfl, h1, _⟩ := h.tupv
    have ht : TyX X.K H (.ref a) (.type "tuple") := by
      rcases h1 with h1 | ⟨o, its, n, h1, h2, _⟩
      · exact .base (.tup h1)
      · exact .kTuple (hK ▸ h1) h2
    refine ⟨_, ht, ?_⟩
    cases t <;> cases e <;> exact kit_ty (by decide +kernel)
  | lst xs =>
    rw [q] at e
    obtain ⟨a, vs, rfl, h1, _⟩ := deref_lst r h q
    refine ⟨_, .base (.lst h1), ?_⟩
    cases t <;> cases e <;> exact kit_ty (by decide +kernel)
  | scr ns =>
    rw [deref_scr q] at h
    rw [q] at e
    unfold RD at h
    obtain ⟨a, rfl, h1⟩ := h
    have ht : TyX X.K H (.ref a) (.type "list") := by
      rcases h1 with ⟨h1 | ⟨o, h1⟩, _⟩ | ⟨o, its, n, h1, h2, _⟩
      · exact .base (.lst h1)
      · exact .base (.frz h1)
      · exact .kList (hK ▸ h1) h2
    refine ⟨_, ht, ?_⟩
    cases t <;> cases e <;> exact kit_ty (by decide +kernel)
  | ref k => rw [q] at e; cases t <;> cases e
  | fn f => rw [q] at e; cases t <;> cases e
  | clo i ds => rw [q] at e; cases t <;> cases e
theorem RDs.one {am : List Addr} {H : Hp} {d : D} {xs : List V} (h : RDs Γ am H [d] xs) : ∃ v, xs = [v] ∧ RD Γ am H d v := by
  unfold RDs at h
  obtain ⟨v, r, rfl, h1, h2⟩ := h
  unfold RDs at h2
  subst h2
  exact ⟨v, rfl, h1⟩
theorem RDs.two {am : List Addr} {H : Hp} {d e : D} {xs : List V} (h : RDs Γ am H [d, e] xs) : ∃ v u, xs = [v, u] ∧ RD Γ am H d v ∧ RD Γ am H e u := by
  unfold RDs at h
  obtain ⟨v, r, rfl, h1, h2⟩ := h
  obtain ⟨u, rfl, h3⟩ := h2.one
  exact ⟨v, u, rfl, h1, h3⟩
def BI.isI : BI → Bool
  | .isi _ => true
  | _ => false
theorem bi_ok (hK : Γ.K = X.K) (hc : X.calm = true) (b : BI) (hb : b.isI = false) : CallR X b.val (rL Γ (biop b)) := by
  intro pins s σ H xs us Q I rv h
  obtain ⟨W, am, S, ds, r, hd, q⟩ := h
  unfold biop M.opt at q
  split at q
  · rename_i o e0
    have fin : Out Γ am H W (KV Γ Q) (.ok o S) := q
    split at e0
    · cases e0
      obtain ⟨v, rfl, h1⟩ := hd.one
      exact call_abs pins s σ H _ us Q I rv ⟨_, by rw [h1.intv], out_int r fin⟩
    · rename_i d
      obtain ⟨v, rfl, h1⟩ := hd.one
      split at e0
      · rename_i ys q1
        cases e0
        rw [deref_tup q1] at h1
        obtain ⟨a, vs, rfl, k1, k2⟩ := h1.tupv
        exact call_len_seq pins s σ H _ us Q I rv ⟨a, vs, rfl, .inr (hK ▸ k1.sq), by rw [k2.length]; exact out_int r fin⟩
      · rename_i ys q1
        cases e0
        obtain ⟨a, vs, rfl, k1, k2⟩ := deref_lst r h1 q1
        exact call_len_seq pins s σ H _ us Q I rv ⟨a, vs, rfl, .inl (.of k1), by rw [k2.length]; exact out_int r fin⟩
      · rename_i t q1
        rw [deref_str q1] at h1
        split at e0
        · rename_i hl
          cases e0
          exact call_len_str pins s σ H _ us Q I rv ⟨_, by rw [h1.strv], by rw [str_len, ← lim_eq]; exact hl, by rw [str_len]; exact out_int r fin⟩
        · cases e0
      · cases e0
    · cases e0
      obtain ⟨v, rfl, h1⟩ := hd.one
      exact call_int1 pins s σ H _ us Q I rv (.inl ⟨_, by rw [h1.intv], out_int r fin⟩)
    · cases e0
      obtain ⟨v, rfl, h1⟩ := hd.one
      exact call_int1 pins s σ H _ us Q I rv (.inr ⟨_, by rw [h1.blv], out_int r fin⟩)
    · cases e0
      obtain ⟨v, u, rfl, h1, h2⟩ := hd.two
      exact call_max2 hc pins s σ H _ us Q I rv ⟨_, _, by rw [h1.intv, h2.intv], out_int r fin⟩
    · cases e0
      obtain ⟨v, u, rfl, h1, h2⟩ := hd.two
      exact call_min2 hc pins s σ H _ us Q I rv ⟨_, _, by rw [h1.intv, h2.intv], out_int r fin⟩
    · obtain ⟨v, rfl, h1⟩ := hd.one
      split at e0
      · rename_i i ys q1
        obtain ⟨a, vs, rfl, k1, k2⟩ := deref_lst r h1 q1
        cases e1 : intL ys with
        | none => rw [e1] at e0; cases e0
        | some ns =>
          rw [e1] at e0
          cases e0
          unfold RDs at k2
          obtain ⟨v1, vr, rfl, k3, k4⟩ := k2
          rw [k3.intv, intL_v e1 k4] at k1
          refine cr_max hc pins s σ H _ us Q I rv ⟨a, i :: ns, rfl, .of k1, by simp, fun m hm hge => ?_⟩
          have e2 : m = maxL i ns := Int.le_antisymm (maxL_ge i ns m hm) (hge _ (maxL_mem i ns))
          rw [e2]
          exact out_int r fin
      · cases e0
    · obtain ⟨v, rfl, h1⟩ := hd.one
      split at e0
      · rename_i i ys q1
        obtain ⟨a, vs, rfl, k1, k2⟩ := deref_lst r h1 q1
        cases e1 : intL ys with
        | none => rw [e1] at e0; cases e0
        | some ns =>
          rw [e1] at e0
          cases e0
          unfold RDs at k2
          obtain ⟨v1, vr, rfl, k3, k4⟩ := k2
          rw [k3.intv, intL_v e1 k4] at k1
          refine cr_min hc pins s σ H _ us Q I rv ⟨a, i :: ns, rfl, .of k1, by simp, fun m hm hge => ?_⟩
          have e2 : m = minL i ns := Int.le_antisymm (hge _ (minL_mem i ns)) (minL_le i ns m hm)
          rw [e2]
          exact out_int r fin
      · cases e0
    · obtain ⟨v, rfl, h1⟩ := hd.one
      split at e0
      · rename_i ys q1
        obtain ⟨a, vs, rfl, k1, k2⟩ := deref_lst r h1 q1
        cases e1 : intL ys with
        | none => rw [e1] at e0; cases e0
        | some ns =>
          rw [e1] at e0
          cases e0
          rw [intL_v e1 k2] at k1
          exact cr_sum hc pins s σ H _ us Q I rv ⟨a, ns, rfl, .of k1, out_int r fin⟩
      · cases e0
    · obtain ⟨v, rfl, h1⟩ := hd.one
      split at e0
      · rename_i ys q1
        obtain ⟨a, vs, rfl, k1, k2⟩ := deref_lst r h1 q1
        cases e1 : boolL ys with
        | none => rw [e1] at e0; cases e0
        | some ns =>
          rw [e1] at e0
          cases e0
          rw [boolL_v e1 k2] at k1
          exact cr_all hc pins s σ H _ us Q I rv ⟨a, ns, rfl, .of k1, out_bl r fin⟩
      · cases e0
    · obtain ⟨v, rfl, h1⟩ := hd.one
      split at e0
      · rename_i ys q1
        obtain ⟨a, vs, rfl, k1, k2⟩ := deref_lst r h1 q1
        cases e1 : boolL ys with
        | none => rw [e1] at e0; cases e0
        | some ns =>
          rw [e1] at e0
          cases e0
          rw [boolL_v e1 k2] at k1
          exact cr_any hc pins s σ H _ us Q I rv ⟨a, ns, rfl, .of k1, out_bl r fin⟩
      · cases e0
    · obtain ⟨v, rfl, h1⟩ := hd.one
      split at e0
      · rename_i ys q1
        cases e0
        rw [deref_tup q1] at h1
        have h1' := h1
        obtain ⟨a, vs, rfl, k1, k2⟩ := h1.tupv
        exact call_tuple_of pins s σ H _ us Q I rv ⟨a, vs, rfl, .inr ⟨hK ▸ k1.sq, fin am H (.refl _ _) r _ h1'⟩⟩
      · rename_i ys q1
        cases e0
        obtain ⟨a, vs, rfl, k1, k2⟩ := deref_lst r h1 q1
        exact call_tuple_of pins s σ H _ us Q I rv ⟨a, vs, rfl, .inl ⟨.of k1, new_tup r k2 fin⟩⟩
      · cases e0
    · obtain ⟨v, rfl, h1⟩ := hd.one
      split at e0
      · rename_i ys q1
        cases e0
        rw [deref_tup q1] at h1
        obtain ⟨a, vs, rfl, k1, k2⟩ := h1.tupv
        exact call_list_of pins s σ H _ us Q I rv ⟨a, vs, rfl, .inr (hK ▸ k1.sq), new_lst r k2 fin⟩
      · rename_i ys q1
        cases e0
        obtain ⟨a, vs, rfl, k1, k2⟩ := deref_lst r h1 q1
        exact call_list_of pins s σ H _ us Q I rv ⟨a, vs, rfl, .inl (.of k1), new_lst r k2 fin⟩
      · cases e0
    · obtain ⟨v, rfl, h1⟩ := hd.one
      split at e0
      · rename_i ys q1
        obtain ⟨a, vs, rfl, k1, k2⟩ := deref_lst r h1 q1
        cases e1 : intL ys with
        | none => rw [e1] at e0; cases e0
        | some ns =>
          rw [e1] at e0
          have e0' : (if ns.length < 64 then some (D.lst ((sortI ns).map D.int)) else none) = some o := e0
          split at e0'
          · rename_i h64
            cases e0'
            rw [intL_v e1 k2] at k1
            refine cr_sorted pins s σ H _ us Q I rv ⟨a, ns, rfl, .of k1, h64, fun ns' p hp hs hn => ?_⟩
            have e2 : ns' = sortI ns := PySem.W.ksm_same (hp.trans (sortI_perm ns).symm) hs (sortI_pw ns)
            rw [e2]
            exact new_lst r (RDs.scr _) fin p hn
          · cases e0'
      · cases e0
    · cases hb
    · cases e0
  · exact q.elim

/-! ### methods -/
def rM (Γ : Gm) (m : ME) : V → List V → Hp → VK → Prop := fun x xs H Q => ∃ (W : WO) (am : List Addr) (S : Sto) (d : D) (ds : List D), Rel Γ am S H ∧ RD Γ am H d x ∧ RDs Γ am H ds xs ∧ Out Γ am H W (KV Γ Q) (meop m d ds S)
theorem ref_lst {am : List Addr} {H : Hp} {S : Sto} {k : Nat} {v : V} {xs : List D} (r : Rel Γ am S H) (h : RD Γ am H (.ref k) v) (e : S[k]? = some (.lst xs)) : ∃ a vs, v = .ref a ∧ am[k]? = some a ∧ H a = some (.lst vs) ∧ RDs Γ am H xs vs := by
  unfold RD at h
  obtain ⟨a, ha, rfl⟩ := h
  obtain ⟨b, hb, vs, h1, h2⟩ := r.ob k _ e
  rw [ha] at hb
  cases hb
  exact ⟨a, vs, rfl, ha, h1, h2⟩
theorem append_ok : MtR X "list.append" (rM Γ .append) := by
  intro pins s σ H x xs v us Q I rx rs h
  obtain ⟨W, am, S, d, ds, r, hd, hds, q⟩ := h
  unfold meop at q
  split at q
  · rename_i k e
    split at q
    · rename_i ys e1
      split at q
      · rename_i hl
        obtain ⟨a, vs, rfl, ha, h1, h2⟩ := ref_lst r hd e1
        obtain ⟨v1, rfl, h3⟩ := hds.one
        refine mt_append pins s σ H _ _ v us Q I rx rs ⟨a, vs, v1, rfl, rfl, h1, by rw [h2.length, ← lim_eq]; exact hl, ?_⟩
        exact q am _ (Ext.put (List.mem_of_getElem? ha) h1) (r.put ha h1 (h2.append (RDs.cons h3 RDs.nil))) _ (by unfold RD; rfl)
      · exact q.elim
    · exact q.elim
  · rename_i h0
    cases h0
  · rename_i h0
    cases h0
  · exact q.elim
theorem pop_ok : MtR X "list.pop" (rM Γ .pop) := by
  intro pins s σ H x xs v us Q I rx rs h
  obtain ⟨W, am, S, d, ds, r, hd, hds, q⟩ := h
  unfold meop at q
  split at q
  · rename_i h0
    cases h0
  · rename_i k h0
    split at q
    · rename_i ys e1
      split at q
      · rename_i y e2
        obtain ⟨a, vs, rfl, ha, h1, h2⟩ := ref_lst r hd e1
        unfold RDs at hds
        subst hds
        rw [List.getLast?_eq_getElem?] at e2
        obtain ⟨z, hz, h3⟩ := h2.get e2
        refine mt_pop pins s σ H _ _ v us Q I rx rs ⟨a, vs, z, rfl, rfl, h1, by rw [h2.length]; exact hz, ?_⟩
        have e : Ext am H am (upd H a (.lst vs.dropLast)) := Ext.put (List.mem_of_getElem? ha) h1
        exact q am _ e (r.put ha h1 h2.dropLast) _ (h3.ext e)
      · exact q.elim
    · exact q.elim
  · rename_i h0
    cases h0
  · exact q.elim
def rSet (Γ : Gm) : TSet := fun o i v H Q => ∃ (W : WO) (am : List Addr) (S : Sto) (d e f : D), Rel Γ am S H ∧ RD Γ am H d o ∧ RD Γ am H e i ∧ RD Γ am H f v ∧ Out Γ am H W (fun _ _ _ H' => Q H') (setop d e f S)
theorem set_ok : PSet X (rSet Γ) := by
  intro pins s σ H o i v ov iv u Q I ro ri rv h
  obtain ⟨W, am, S, d, e, f, r, hd, he, hf, q⟩ := h
  unfold setop at q
  split at q
  · split at q
    · rename_i ys e1
      split at q
      · rename_i n e2
        obtain ⟨a, vs, rfl, ha, h1, h2⟩ := ref_lst r hd e1
        refine set_list pins s σ H _ i v ov iv u Q I ro ri rv ⟨a, vs, _, n, rfl, he.intv, h1, by rw [h2.length]; exact e2, ?_⟩
        exact q am _ (Ext.put (List.mem_of_getElem? ha) h1) (r.put ha h1 (h2.set hf n))
      · exact q.elim
    · exact q.elim
  · exact q.elim
end
end PI

/-! what a for, a comprehension walks -/
namespace PI
open PySem PySem.Spec PyProof.Rows L2
inductive Sk where
  | l | t
def Sq (K : PySem.W.Frag) (H : Hp) : Sk → Addr → List V → Prop
  | .l => SqL K H
  | .t => SqT K H
def HasS (h : Heap) : Sk → Addr → Array Value → Prop
  | .l => h.IsList
  | .t => h.IsTuple
def ItS (h : Heap) : Sk → Addr → Addr → Nat → Prop
  | .l => h.IsListIter
  | .t => h.IsTupleIter
def itObj : Sk → Addr → Obj
  | .l, a => { cls := .type "list_iterator", data := .fields #[.ref a, .int 0 0] }
  | .t, a => { cls := .type "tuple_iterator", data := .fields #[.ref a, .int 0 0] }
section
variable {X : Cx} {pins : List (Addr × Obj)} {σ : L2.St} {H : Hp} {s : Shared} {k : Sk} {a : Addr} {xs ys : List V}
theorem inv_sq (I : Inv X pins σ H s) (h : Sq X.K H k a xs) : ∃ its : List Value, Vals xs its ∧ HasS s.heap k a its.toArray ∧ a < s.heap.objs.size := by
  cases k with
  | l =>
    obtain ⟨its, r, p, _⟩ := I.list h
    exact ⟨its, r, p.isList, p.lt⟩
  | t =>
    obtain ⟨its, r, p, _⟩ := I.tuple h
    exact ⟨its, r, p, p.lt⟩
theorem inv_sq_inj (I : Inv X pins σ H s) (h : Sq X.K H k a xs) (h' : Sq X.K H k a ys) : xs = ys := by
  cases k with
  | l => exact I.list_inj h h'
  | t => exact I.tuple_inj h h'
theorem ItS.get {h : Heap} {it a : Addr} {i : Nat} : ∀ {k : Sk}, ItS h k it a i → ∃ o, h.get? it = some o ∧ ∀ v, o.data ≠ .cell v
  | .l, ⟨o, e, c, d⟩ => ⟨o, e, fun v z => by rw [d] at z; cases z⟩
  | .t, ⟨o, e, c, d⟩ => ⟨o, e, fun v z => by rw [d] at z; cases z⟩
theorem ItS.keep {h h' : Heap} {it a : Addr} {i : Nat} (hk : ∀ o, h.get? it = some o → h'.get? it = some o) : ∀ {k : Sk}, ItS h k it a i → ItS h' k it a i
  | .l, ⟨o, e, c, d⟩ => ⟨o, hk o e, c, d⟩
  | .t, ⟨o, e, c, d⟩ => ⟨o, hk o e, c, d⟩
theorem drawS {prog : Program} {w : World} {A : Around} (hh : A.handled = none) (it a : Addr) (hne : a ≠ it) (items : Array Value) (k : Sk) :
    Draws prog w A it [it, a] items.size (fun i v => items[i]? = some v) (fun i h => ItS h k it a i ∧ HasS h k a items) := by
  cases k with
  | l => exact Draws.list hh it a hne items
  | t => exact Draws.tuple hh it a hne items
theorem beginS (k : Sk) (a : Addr) (items : Array Value) : Begins (.ref a) (itObj k a) fun h => HasS h k a items := by
  cases k with
  | l => exact begins_list a items
  | t => exact begins_tuple a items
/-- enumerate of a list or a tuple -/
def IteS (K : PySem.W.Frag) (k : Sk) (a : Addr) : It :=
  ⟨fun i H => ∃ (xs : List V) (x : V), Sq K H k a xs ∧ xs[i]? = some x, fun i H v H' => ∃ T x, v = .ref T ∧ H T = none ∧ H' = upd H T (.tup [.int (i : Nat), x]) ∧ ∀ xs, Sq K H k a xs → xs[i]? = some x, fun i H => ∃ xs : List V, Sq K H k a xs ∧ xs.length = i⟩
theorem turn_enumS {P : Program} {w : World} {K : PySem.W.Frag} {elts : List Expr} {kk : Nat} {tpos : Pos} (k : Sk) (a e it : Addr) :
    Turn P w K (.Tuple elts kk tpos) (IteS K k a) [e, it] e (fun i h => (∃ old, IsEnum h e it ((i : Nat) : Int) old) ∧ ItS h k it a i ∧ e ≠ it ∧ e ≠ a ∧ a ≠ it) where
  mem := by simp
  obj := fun i h st b hb => by
    obtain ⟨⟨old, he⟩, hi, _⟩ := st
    have e' : b = e ∨ b = it := by simpa using hb
    rcases e' with z | z
    · rw [z]; exact ⟨_, he, fun v q => nomatch q⟩
    · rw [z]; exact hi.get
  keep := fun i h h' st kp => let ⟨⟨old, he⟩, hi, r⟩ := st; ⟨⟨old, kp e (by simp) _ he⟩, hi.keep fun o q => kp it (by simp) o q, r⟩
  item := by
    intro X hP hw hK hc i pins s σ H E I hf st hg
    subst hP hw hK
    obtain ⟨⟨old, he⟩, hit, hne, hea, hai⟩ := st
    obtain ⟨xs, x, hq, hx⟩ := hg
    obtain ⟨its, rv, p, hz⟩ := inv_sq I hq
    obtain ⟨u, hu, ru⟩ := rv.get hx
    have hel : e < s.heap.objs.size := Heap.lt_size he
    have hil : it < s.heap.objs.size := by obtain ⟨_, q, _⟩ := hit.get; exact Heap.lt_size q
    have hi' : i < its.toArray.size := by
      rw [List.size_toArray]
      exact (List.getElem?_eq_some_iff.mp hu).1
    refine wpAny_pyNext_enum_itemD (drawS (A := X.A.in1) (I.ok.hd hc) it a hai its.toArray k) he ⟨hit, p⟩ hi' hne (by simp [hne, hea]) fun x' h' tk hx' ho st' hT hsz hk => ?_
    have ex : x' = u := by
      have : its[i]? = some x' := by simpa using hx'
      rw [hu] at this
      exact (Option.some.inj this).symm
    subst ex
    refine ⟨_, rfl, wpAny_letOwnedTupleGo_enum (s := { s with heap := h', toks := tk + 1 }) ho fun h'' he' sb => ?_⟩
    have hT2 : h''.get? s.heap.objs.size = some { cls := .type "tuple", data := .seq #[.int i tk, x'] } := (sb.2 _ (Nat.ne_of_gt hel)).trans hT
    have new : ObjOk X.prog X.w (upd H s.heap.objs.size (.tup [.int (i : Nat), x])) h'' s.heap.objs.size (.tup [.int (i : Nat), x]) :=
      ⟨by show 2 ≤ sizeLine; decide, [.int i tk, x'], .cons ⟨_, rfl⟩ (.cons ru .nil), ⟨_, hT2, rfl, _, rfl⟩⟩
    have I1 : Inv X pins σ (upd H s.heap.objs.size (.tup [.int (i : Nat), x])) { s with heap := h'', toks := tk + 1 } :=
      I.turnedNew (ch := [e, it]) (fun b ob hb q => (sb.2 b (fun z => hb (by simp [z]))).trans (hk b ob (fun z => hb (by simp [z])) (fun z => hb (by simp [z])) q)) hf (Nat.le_refl _) new
    refine ⟨.ref s.heap.objs.size, _, I1, rfl, ⟨_, x, rfl, I.hok.fresh (Nat.le_refl _), rfl, fun ys hy => by rw [inv_sq_inj I hy hq]; exact hx⟩, ⟨⟨x', ?_⟩, st'.1.keep fun o q => (sb.2 it (Ne.symm hne)).trans q, hne, hea, hai⟩, fun b hb => ?_⟩
    · have e1 : ((i + 1 : Nat) : Int) = (i : Int) + 1 := by omega
      rw [e1]; exact he'
    · have hb' : b < s.heap.objs.size := by
        have e' : b = e ∨ b = it := by simpa using hb
        rcases e' with z | z
        · rw [z]; exact hel
        · rw [z]; exact hil
      rw [upd_ne (Nat.ne_of_lt hb')]
      exact (hf b hb).1
  done := by
    intro X hP hw hK hc i pins s σ H E I hf st hg
    subst hP hw hK
    obtain ⟨⟨old, he⟩, hit, hne, hea, hai⟩ := st
    obtain ⟨xs, hq, hx⟩ := hg
    obtain ⟨its, rv, p, hz⟩ := inv_sq I hq
    obtain ⟨f0, f1, f2, f3, f4, f5⟩ := hf it (by simp)
    have hl := rv.length
    have hi : i = its.toArray.size := by rw [List.size_toArray]; omega
    subst hi
    exact wpAny_pyNext_enum_endD (drawS (A := X.A.in1) (I.ok.hd hc) it a hai its.toArray k) he ⟨hit, p⟩ fun h' eb => ⟨rfl, I.turned (t' := s.toks) (fun b o hb q => eb b o hb q) f0 f1 f3 f4 f5⟩
  self := fun A i s Q E st h => let ⟨⟨_, he⟩, _⟩ := st; wpAny_pyIter_enum he h

/-- zip of two lists, tuples -/
def ItzS (K : PySem.W.Frag) (k l : Sk) (a b : Addr) : It :=
  ⟨fun i H => ∃ (xs ys : List V) (x y : V), Sq K H k a xs ∧ Sq K H l b ys ∧ xs[i]? = some x ∧ ys[i]? = some y,
    fun i H v H' => ∃ T x y, v = .ref T ∧ H T = none ∧ H' = upd H T (.tup [x, y]) ∧ (∀ xs, Sq K H k a xs → xs[i]? = some x) ∧ ∀ ys, Sq K H l b ys → ys[i]? = some y,
    fun i H => ∃ xs ys : List V, Sq K H k a xs ∧ Sq K H l b ys ∧ i ≤ xs.length ∧ i ≤ ys.length ∧ (i = xs.length ∨ i = ys.length)⟩
/-- the cells lie apart -/
structure Apart (z TI TO i1 i2 a b : Addr) : Prop where
  TIz : TI ≠ z
  TOz : TO ≠ z
  TITO : TI ≠ TO
  TIi1 : TI ≠ i1
  TIi2 : TI ≠ i2
  i1z : i1 ≠ z
  i2z : i2 ≠ z
  i1TO : i1 ≠ TO
  i2TO : i2 ≠ TO
  i12 : i1 ≠ i2
  az : a ≠ z
  bz : b ≠ z
  aTO : a ≠ TO
  bTO : b ≠ TO
  ai1 : a ≠ i1
  ai2 : a ≠ i2
  bi1 : b ≠ i1
  bi2 : b ≠ i2
theorem Apart.sep {z TI TO i1 i2 a b : Addr} (D : Apart z TI TO i1 i2 a b) : ZipSep2 z TI TO i1 i2 [i1, a] [i2, b] where
  TIz := D.TIz
  TOz := D.TOz
  TITO := D.TITO
  TIi1 := D.TIi1
  mem1 := by simp
  zf1 := by simp [D.i1z.symm, D.az.symm]
  Tf1 := by simp [D.i1TO.symm, D.aTO.symm]
  TIi2 := D.TIi2
  mem2 := by simp
  zf2 := by simp [D.i2z.symm, D.bz.symm]
  Tf2 := by simp [D.i2TO.symm, D.bTO.symm]
  sep1_2 := by simp [D.i12, D.bi1.symm]
  sep2_1 := by simp [D.i12.symm, D.ai2.symm]
theorem apart_mk {n a b : Nat} (ha : a < n) (hb : b < n) : Apart (n + 4) (n + 2) (n + 3) n (n + 1) a b :=
  ⟨by simp, by simp, by simp, by simp, by simp, by simp, by simp, by simp, by simp, by simp, Nat.ne_of_lt (by omega), Nat.ne_of_lt (by omega), Nat.ne_of_lt (by omega), Nat.ne_of_lt (by omega), Nat.ne_of_lt (by omega), Nat.ne_of_lt (by omega), Nat.ne_of_lt (by omega), Nat.ne_of_lt (by omega)⟩
theorem turn_zipS {P : Program} {w : World} {K : PySem.W.Frag} {elts : List Expr} {kk : Nat} {tpos : Pos} (k l : Sk) {a b z TI TO i1 i2 : Addr} (D : Apart z TI TO i1 i2 a b) :
    Turn P w K (.Tuple elts kk tpos) (ItzS K k l a b) [z, TI, TO, i1, i2] z (fun i h => IsZip h z TI TO .none ∧ IsTupOf2 h TI (.ref i1) (.ref i2) ∧ (∃ x y, IsTupOf2 h TO x y) ∧ ItS h k i1 a i ∧ ItS h l i2 b i) where
  mem := by simp
  obj := fun i h st c hc => by
    obtain ⟨hz, hTI, ⟨x, y, hTO⟩, h1, h2⟩ := st
    have e' : c = z ∨ c = TI ∨ c = TO ∨ c = i1 ∨ c = i2 := by simpa using hc
    rcases e' with q | q | q | q | q
    · rw [q]; exact ⟨_, hz, fun v q => nomatch q⟩
    · rw [q]; exact ⟨_, hTI, fun v q => nomatch q⟩
    · rw [q]; exact ⟨_, hTO, fun v q => nomatch q⟩
    · rw [q]; exact h1.get
    · rw [q]; exact h2.get
  keep := fun i h h' st k => by
    obtain ⟨hz, hTI, ⟨x, y, hTO⟩, h1, h2⟩ := st
    exact ⟨k z (by simp) _ hz, k TI (by simp) _ hTI, ⟨x, y, k TO (by simp) _ hTO⟩, h1.keep fun o q => k i1 (by simp) o q, h2.keep fun o q => k i2 (by simp) o q⟩
  item := by
    intro X hP hw hK hc i pins s σ H E I hf st hg
    subst hP hw hK
    obtain ⟨hz, hTI, ⟨x0, y0, hTO⟩, h1, h2⟩ := st
    obtain ⟨xs, ys, x, y, hqx, hqy, hx, hy⟩ := hg
    obtain ⟨its, rv, p, _⟩ := inv_sq I hqx
    obtain ⟨its2, rv2, p2, _⟩ := inv_sq I hqy
    obtain ⟨u, hu, ru⟩ := rv.get hx
    obtain ⟨u2, hu2, ru2⟩ := rv2.get hy
    have hzl : z < s.heap.objs.size := Heap.lt_size hz
    have hh : (X.A.in1).handled = none := I.ok.hd hc
    refine wpAny_pyNext_zipD2_item D.sep (drawS (A := X.A.in1) hh i1 a D.ai1 its.toArray k) (drawS (A := X.A.in1) hh i2 b D.bi2 its2.toArray l) hz hTI hTO ⟨h1, p⟩ ⟨h2, p2⟩
      (by rw [List.size_toArray]; exact (List.getElem?_eq_some_iff.mp hu).1) (by rw [List.size_toArray]; exact (List.getElem?_eq_some_iff.mp hu2).1) fun x1 x2 h' tk hx1 hx2 z' TO' h1' h2' hT hsz hk => ?_
    have e1 : x1 = u := by
      have : its[i]? = some x1 := by simpa using hx1
      rw [hu] at this
      exact (Option.some.inj this).symm
    have e2 : x2 = u2 := by
      have : its2[i]? = some x2 := by simpa using hx2
      rw [hu2] at this
      exact (Option.some.inj this).symm
    subst e1 e2
    refine ⟨_, rfl, wpAny_letOwnedTupleGo_zip (s := { s with heap := h', toks := tk }) z' fun h'' z'' sb => ?_⟩
    have hT2 : h''.get? s.heap.objs.size = some { cls := .type "tuple", data := .seq #[x1, x2] } := (sb.2 _ (Nat.ne_of_gt hzl)).trans hT
    have new : ObjOk X.prog X.w (upd H s.heap.objs.size (.tup [x, y])) h'' s.heap.objs.size (.tup [x, y]) :=
      ⟨by show 2 ≤ sizeLine; decide, [x1, x2], .cons ru (.cons ru2 .nil), ⟨_, hT2, rfl, _, rfl⟩⟩
    have I1 : Inv X pins σ (upd H s.heap.objs.size (.tup [x, y])) { s with heap := h'', toks := tk } :=
      I.turnedNew (t' := tk) (ch := [z, TI, TO, i1, i2]) (fun c o hb q => (sb.2 c (fun q' => hb (by simp [q']))).trans (hk c o (fun q' => hb (by simp [q'])) (fun q' => hb (by simp [q'])) (fun q' => hb (by simp [q'])) (fun q' => hb (by simp [q'])) q)) hf (Nat.le_refl _) new
    refine ⟨.ref s.heap.objs.size, _, I1, rfl, ⟨_, x, y, rfl, I.hok.fresh (Nat.le_refl _), rfl, fun l hl => by rw [inv_sq_inj I hl hqx]; exact hx, fun l hl => by rw [inv_sq_inj I hl hqy]; exact hy⟩, ⟨z'', ?_, ⟨x1, x2, ?_⟩, ?_, ?_⟩, fun c hcm => ?_⟩
    · exact (sb.2 _ D.TIz).trans (hk _ _ D.TIz D.TITO D.TIi1 D.TIi2 hTI)
    · exact (sb.2 _ D.TOz).trans TO'
    · exact h1'.1.keep fun o q => (sb.2 _ D.i1z).trans q
    · exact h2'.1.keep fun o q => (sb.2 _ D.i2z).trans q
    · have hlt : c < s.heap.objs.size := by
        have e' : c = z ∨ c = TI ∨ c = TO ∨ c = i1 ∨ c = i2 := by simpa using hcm
        rcases e' with q | q | q | q | q
        · rw [q]; exact hzl
        · rw [q]; exact Heap.lt_size hTI
        · rw [q]; exact Heap.lt_size hTO
        · rw [q]; obtain ⟨_, e1, _⟩ := h1.get; exact Heap.lt_size e1
        · rw [q]; obtain ⟨_, e2, _⟩ := h2.get; exact Heap.lt_size e2
      rw [upd_ne (Nat.ne_of_lt hlt)]
      exact (hf c hcm).1
  done := by
    intro X hP hw hK hc i pins s σ H E I hf st hg
    subst hP hw hK
    obtain ⟨hz, hTI, ⟨x0, y0, hTO⟩, h1, h2⟩ := st
    obtain ⟨xs, ys, hqx, hqy, l1, l2, hend⟩ := hg
    obtain ⟨its, rv, p, _⟩ := inv_sq I hqx
    obtain ⟨its2, rv2, p2, _⟩ := inv_sq I hqy
    have m1 := rv.length
    have m2 := rv2.length
    have hh : (X.A.in1).handled = none := I.ok.hd hc
    exact wpAny_pyNext_zipD2_end D.sep (drawS (A := X.A.in1) hh i1 a D.ai1 its.toArray k) (drawS (A := X.A.in1) hh i2 b D.bi2 its2.toArray l) hz hTI hTO ⟨h1, p⟩ ⟨h2, p2⟩
      (by rw [List.size_toArray]; omega) (by rw [List.size_toArray]; omega) (by rw [List.size_toArray, List.size_toArray]; omega) fun h' tk hk => ⟨rfl, I.turnedL (t' := tk) (ch := [z, TI, TO, i1, i2]) (fun c o hb q =>
      hk c o (fun q' => hb (by simp [q'])) (fun q' => hb (by simp [q'])) (fun q' => hb (by simp [q'])) (fun q' => hb (by simp [q'])) q) hf⟩
  self := fun A i s Q E st h => wpAny_pyIter_zip st.1 h
/-- a list or a tuple itself -/
def Its2 (K : PySem.W.Frag) : Sk → Addr → It
  | .l, a => Itl K a
  | .t, a => Itt K a
theorem pi_seq {tg l : Expr} {tl : TE} (hl : PE X l tl) : PI X tg l (fun σ H R => tl σ H fun x H1 => ∃ k a xs, x = .ref a ∧ Sq X.K H1 k a xs ∧ R (Its2 X.K k a) H1) := by
  refine ⟨fun pins s σ H R I h => ?_⟩
  refine thn (hl.run pins s σ H _ I h) fun v s1 ⟨x, H1, I1, r1, q1⟩ => ?_
  obtain ⟨k, a, xs, e, hq, q⟩ := q1
  subst e
  cases r1
  cases k with
  | l =>
    obtain ⟨its, rv, p, hz⟩ := I1.list hq
    refine wpAny_pyIter_list p.isList ?_
    refine ⟨s1.heap.objs.size, [s1.heap.objs.size], _, _, H1, rfl, I1.kept (t' := s1.toks) fun b o e => Heap.get?_push_of_some _ e, turn_list a _, ⟨_, Heap.get?_push_size _ rfl, rfl, rfl⟩, fun b hb => ?_, q⟩
    have e : b = s1.heap.objs.size := by simpa using hb
    subst e
    exact I1.fpOk (Nat.le_refl _) (I1.hok.fresh (Nat.le_refl _))
  | t =>
    obtain ⟨its, rv, p, hz⟩ := I1.tuple hq
    refine wpAny_pyIter_tuple p ?_
    refine ⟨s1.heap.objs.size, [s1.heap.objs.size], _, _, H1, rfl, I1.kept (t' := s1.toks) fun b o e => Heap.get?_push_of_some _ e, turn_tuple a _, ⟨_, Heap.get?_push_size _ rfl, rfl, rfl⟩, fun b hb => ?_, q⟩
    have e : b = s1.heap.objs.size := by simpa using hb
    subst e
    exact I1.fpOk (Nat.le_refl _) (I1.hok.fresh (Nat.le_refl _))
theorem itObj_at {h : Heap} {it a : Addr} {k : Sk} (e : h.get? it = some (itObj k a)) : ItS h k it a 0 := by
  cases k with
  | l => exact ⟨_, e, rfl, rfl⟩
  | t => exact ⟨_, e, rfl, rfl⟩
theorem meets_enum1 {v : Value} {o : Obj} {H : Heap → Prop} (B : Begins v o H) :
    Meets (Builtin.«enumerate.__new__» ⟨[.type "enumerate", v], []⟩) (fun _ R s => H s.heap ∧
      R (.ok (.ret (.ref (s.heap.push o).objs.size))) { s with heap := (s.heap.push o).push { cls := .type "enumerate", data := .fields #[.none, .bool false, .ref s.heap.objs.size, rawInt 0, .none, .none] } }) :=
  .of_wp fun prog w A R s h => by
    obtain ⟨hp, g, d, tk, os⟩ := s; obtain ⟨h1, h⟩ := h
    have hsub := sub_enumerate
    have q1 : ∀ {A' : Around} {E : Value → Shared → Prop} {Q : Value → Shared → Prop}, Q (.ref hp.objs.size) ⟨hp.push o, g, d, tk, os⟩ → wpAny (model prog w) A' (pyIter v) Q E ⟨hp, g, d, tk, os⟩ :=
      fun q => B.iter prog w _ _ ⟨hp, g, d, tk, os⟩ _ h1 q
    wp_walk using q1
    refine wpAny_stack_any fun st => wpAny_pure ?_
    split
    · rename_i c _ _ _ _ _
      cases (c == Value.type "enumerate")
      · wp_walk using q1
        exact ⟨_, rfl, h⟩
      · wp_walk using q1
        exact ⟨_, rfl, h⟩
    · wp_walk using q1
      exact ⟨_, rfl, h⟩
theorem enum_begins1 {prog : Program} {w : World} {A : Around} {E : Value → Shared → Prop} {s : Shared} {v : Value} {o : Obj} {H : Heap → Prop} {Q : Value → Shared → Prop} (B : Begins v o H) (h1 : H s.heap)
    (h : ∀ h', IsEnum h' (s.heap.objs.size + 1) s.heap.objs.size 0 .none → h'.get? s.heap.objs.size = some o → h'.objs.size = s.heap.objs.size + 2 →
      (∀ b o, s.heap.get? b = some o → h'.get? b = some o) → Q (.ref (s.heap.objs.size + 1)) { s with heap := h' }) :
    wpAny (model prog w) A (call (.type "enumerate") [v]) Q E s := by
  refine callType_new F.called_enumerate (by decide) (F.typeCall_enumerate_1 _) (F.newCall_enumerate_1 _) (fun obj => F.args_object_init_2 obj _) F.entry_enumerate_new
    (meets_enum1 B) ⟨h1, ?_⟩
  have hz : (s.heap.push o).objs.size = s.heap.objs.size + 1 := Heap.size_push ..
  show _ ∧ _
  rw [hz]
  have he : IsEnum ((s.heap.push o).push { cls := .type "enumerate", data := .fields #[.none, .bool false, .ref s.heap.objs.size, rawInt 0, .none, .none] }) (s.heap.objs.size + 1) s.heap.objs.size 0 .none := by
    have := Heap.get?_push_size (s.heap.push o) (o := { cls := .type "enumerate", data := .fields #[.none, .bool false, .ref s.heap.objs.size, rawInt 0, .none, .none] }) rfl
    rw [hz] at this; exact this
  refine ⟨⟨_, he, rfl⟩, h _ he (Heap.get?_push_of_some _ (Heap.get?_push_size _ B.free)) (by rw [Heap.size_push, hz]) fun b o x => Heap.get?_push_of_some _ (Heap.get?_push_of_some _ x)⟩
theorem pi_enumS {e : Expr} {ta : TA} {p pos tpos : Pos} {elts : List Expr} {kk : Nat} (hg : Gl X "enumerate") (hm : X.mg "enumerate" = none) (ha : PA X [e] ta) (hs : starEach [e] X.env = [(false, eval e X.env)]) :
    PI X (.Tuple elts kk tpos) (.Call (.Name "enumerate" p) [e] [] pos) (fun σ H R => ta σ H fun vs H1 => ∃ k a xs, vs = [.ref a] ∧ Sq X.K H1 k a xs ∧ R (IteS X.K k a) H1) := by
  refine ⟨fun pins s σ H R I h => ?_⟩
  refine Call_ (ld_blt I hg hm boot_enumerate (PyProof.Rows.callWith_type1 (thn (ha.run pos pins s σ H _ I h) fun us s1 ⟨vs, H1, I1, r1, q1⟩ => ?_) hs rfl))
  obtain ⟨k, a, xs, ex, hq, q⟩ := q1
  subst ex
  cases r1 with
  | cons r rr =>
    cases rr
    cases r
    obtain ⟨its, rv, p', la⟩ := inv_sq I1 hq
    refine enum_begins1 (beginS k a its.toArray) p' fun h' he hit hsz hk => wpAny_pyIter_enum he ?_
    have I2 : Inv X pins σ H1 { s1 with heap := h' } := I1.kept (t' := s1.toks) hk
    refine ⟨s1.heap.objs.size + 1, [s1.heap.objs.size + 1, s1.heap.objs.size], _, _, H1, rfl, I2, turn_enumS k a (s1.heap.objs.size + 1) s1.heap.objs.size, ⟨⟨.none, he⟩, itObj_at hit, Nat.succ_ne_self _, Nat.ne_of_gt (Nat.lt_succ_of_lt la), Nat.ne_of_lt la⟩, fun b hb => ?_, q⟩
    have e' : b = s1.heap.objs.size + 1 ∨ b = s1.heap.objs.size := by simpa using hb
    have hle : s1.heap.objs.size ≤ b := by
      rcases e' with z | z
      · rw [z]; exact Nat.le_add_right _ _
      · rw [z]; exact Nat.le_refl _
    exact I1.fpOk hle (I1.hok.fresh hle)
theorem pi_zipS {e e2 : Expr} {ta : TA} {p pos tpos : Pos} {elts : List Expr} {kk : Nat} (hg : Gl X "zip") (hm : X.mg "zip" = none) (ha : PA X [e, e2] ta)
    (hs : starEach [e, e2] X.env = (false, eval e X.env) :: starEach [e2] X.env) (hpl : (backTo pos (starEach [e2] X.env)).any (·.1) = false) :
    PI X (.Tuple elts kk tpos) (.Call (.Name "zip" p) [e, e2] [] pos) (fun σ H R => ta σ H fun vs H1 => ∃ k l a b xs ys, vs = [.ref a, .ref b] ∧ Sq X.K H1 k a xs ∧ Sq X.K H1 l b ys ∧ R (ItzS X.K k l a b) H1) := by
  refine ⟨fun pins s σ H R I h => ?_⟩
  refine Call_ (ld_blt I hg hm PyProof.Rows.boot_zip (PyProof.Rows.callWith_type1 (thn (ha.run pos pins s σ H _ I h) fun us s1 ⟨vs, H1, I1, r1, q1⟩ => ?_) hs hpl))
  obtain ⟨k, l, a, b, xs, ys, ex, hqx, hqy, q⟩ := q1
  subst ex
  cases r1 with
  | cons r rr =>
    cases rr with
    | cons r' rr =>
      cases rr
      cases r
      cases r'
      have fresh5 : ∀ c, c ∈ [s1.heap.objs.size + 4, s1.heap.objs.size + 2, s1.heap.objs.size + 3, s1.heap.objs.size, s1.heap.objs.size + 1] → FpOk X pins H1 c := fun c hcm => by
        have e' : c = s1.heap.objs.size + 4 ∨ c = s1.heap.objs.size + 2 ∨ c = s1.heap.objs.size + 3 ∨ c = s1.heap.objs.size ∨ c = s1.heap.objs.size + 1 := by simpa using hcm
        have hle : s1.heap.objs.size ≤ c := by
          rcases e' with z | z | z | z | z
          · rw [z]; exact Nat.le_add_right _ _
          · rw [z]; exact Nat.le_add_right _ _
          · rw [z]; exact Nat.le_add_right _ _
          · rw [z]; exact Nat.le_refl _
          · rw [z]; exact Nat.le_add_right _ _
        exact I1.fpOk hle (I1.hok.fresh hle)
      obtain ⟨its, rv, p1, la⟩ := inv_sq I1 hqx
      obtain ⟨its2, rv2, p2, lb⟩ := inv_sq I1 hqy
      refine zip_begins2 (beginS k a its.toArray) (beginS l b its2.toArray) p1 p2 fun h' hz hTI hTO h1 h2 hsz hk => wpAny_pyIter_zip hz ?_
      have I2 : Inv X pins σ H1 { s1 with heap := h' } := I1.kept (t' := s1.toks) hk
      have D : Apart (s1.heap.objs.size + 4) (s1.heap.objs.size + 2) (s1.heap.objs.size + 3) s1.heap.objs.size (s1.heap.objs.size + 1) a b := apart_mk la lb
      exact ⟨s1.heap.objs.size + 4, [s1.heap.objs.size + 4, s1.heap.objs.size + 2, s1.heap.objs.size + 3, s1.heap.objs.size, s1.heap.objs.size + 1], _, _, H1, rfl, I2, turn_zipS k l D, ⟨hz, hTI, ⟨_, _, hTO⟩, itObj_at h1, itObj_at h2⟩, fresh5, q⟩
end
end PI

/-! readings of expressions by the machine -/
namespace PI
open PySem PySem.Spec PyProof.Rows L2
abbrev wo (W : WX) (σ : L2.St) : WO := fun c d H => W c d σ H
def RE (Γ : Gm) (am : List Addr) (H : Hp) (ρ : Env) (σ : L2.St) : Prop := σ.length = ρ.length ∧ ∀ (i : Nat) (d : D), ρ[i]? = some (some d) → ∃ v, σ[i]? = some (some v) ∧ RD Γ am H d v
def tD (Γ : Gm) (W : WX) (m : Env → M D) : TE := fun σ H Q => ∃ (am : List Addr) (ρ : Env) (S : Sto), Rel Γ am S H ∧ RE Γ am H ρ σ ∧ Out Γ am H (wo W σ) (KV Γ Q) (m ρ S)
def tDT (Γ : Gm) (W : WX) (m : Env → M Bool) : TT := fun σ H Q => ∃ (am : List Addr) (ρ : Env) (S : Sto), Rel Γ am S H ∧ RE Γ am H ρ σ ∧ Out Γ am H (wo W σ) (fun b _ _ H' => Q b H') (m ρ S)
def tDA (Γ : Gm) (W : WX) (m : Env → M (List D)) : TA := fun σ H Q => ∃ (am : List Addr) (ρ : Env) (S : Sto), Rel Γ am S H ∧ RE Γ am H ρ σ ∧ Out Γ am H (wo W σ) (fun ds _ am' H' => ∀ vs, RDs Γ am' H' ds vs → Q vs H') (m ρ S)
/-- the walk gives just these items, whatever grows meanwhile -/
def ItOk (Γ : Gm) (am0 : List Addr) (H0 : Hp) (J : It) (xs : List D) : Prop := ∀ (l : List Addr) (am : List Addr) (S : Sto) (H : Hp), Tr Γ am0 H0 l H0 → Ext am0 H0 am H → Rel (Γ.h l) am S H →
  (∀ (i : Nat) (d : D), xs[i]? = some d → J.go i H ∧ ∀ x H', J.yld i H x H' → Ext am H am H' ∧ Rel (Γ.h l) am S H' ∧ RD (Γ.h l) am H' d x) ∧ J.stop xs.length H
def tDI (Γ : Gm) (W : WX) (m : Env → M (List D)) : TI := fun σ H R => ∃ (am : List Addr) (ρ : Env) (S : Sto), Rel Γ am S H ∧ RE Γ am H ρ σ ∧ Out Γ am H (wo W σ) (fun xs _ am' H' => ∀ J, ItOk Γ am' H' J xs → R J H') (m ρ S)
theorem PEi {X : Cx} {e : Expr} {t t' : TE} (h : PE X e t) (f : ∀ σ H Q, t' σ H Q → t σ H Q) : PE X e t' := ⟨fun pins s σ H Q I q => h.run pins s σ H Q I (f σ H Q q)⟩
theorem PTi {X : Cx} {e : Expr} {t t' : TT} (h : PT X e t) (f : ∀ σ H Q, t' σ H Q → t σ H Q) : PT X e t' := ⟨fun pins s σ H Q I q => h.run pins s σ H Q I (f σ H Q q)⟩
theorem PAi {X : Cx} {e : List Expr} {t t' : TA} (h : PA X e t) (f : ∀ σ H Q, t' σ H Q → t σ H Q) : PA X e t' := ⟨fun pos pins s σ H Q I q => h.run pos pins s σ H Q I (f σ H Q q)⟩
theorem PIi {X : Cx} {tg e : Expr} {t t' : TI} (h : PI X tg e t) (f : ∀ σ H R, t' σ H R → t σ H R) : PI X tg e t' := ⟨fun pins s σ H R I q => h.run pins s σ H R I (f σ H R q)⟩
section
variable {Γ : Gm} {am am' : List Addr} {H H' : Hp} {W : WX} {S : Sto} {ρ : Env} {σ : L2.St}
theorem RE.ext (h : RE Γ am H ρ σ) (e : Ext am H am' H') : RE Γ am' H' ρ σ := ⟨h.1, fun i d q => let ⟨v, h1, h2⟩ := h.2 i d q; ⟨v, h1, h2.ext e⟩⟩
theorem RE.set (h : RE Γ am H ρ σ) {i : Nat} {d : D} {v : V} (r : RD Γ am H d v) : RE Γ am H (ρ.set i (some d)) (σ.set i (some v)) := by
  refine ⟨by rw [List.length_set, List.length_set]; exact h.1, fun j e q => ?_⟩
  by_cases hj : j = i
  · subst hj
    have hl : j < ρ.length := by
      have := (List.getElem?_eq_some_iff.mp q).1
      rw [List.length_set] at this
      exact this
    rw [List.getElem?_set_self hl] at q
    cases q
    exact ⟨v, List.getElem?_set_self (by rw [h.1]; exact hl), r⟩
  · rw [List.getElem?_set_ne (Ne.symm hj)] at q ⊢
    exact h.2 j e q
theorem RE.unset (h : RE Γ am H ρ σ) (i : Nat) : RE Γ am H (ρ.set i none) (σ.set i none) := by
  refine ⟨by rw [List.length_set, List.length_set]; exact h.1, fun j e q => ?_⟩
  by_cases hj : j = i
  · subst hj
    have hl : j < ρ.length := by
      have := (List.getElem?_eq_some_iff.mp q).1
      rw [List.length_set] at this
      exact this
    rw [List.getElem?_set_self hl] at q
    cases q
  · rw [List.getElem?_set_ne (Ne.symm hj)] at q ⊢
    exact h.2 j e q
theorem RE.wipe (h : RE Γ am H ρ σ) : ∀ vs : List Nat, RE Γ am H (wipeE ρ vs) (L2.wipe σ vs)
  | [] => h
  | v :: vs => (RE.wipe h vs).unset v
theorem wipe_none : ∀ {vs : List Nat} {i : Nat}, i ∈ vs → i < σ.length → (L2.wipe σ vs)[i]? = some none
  | v :: vs, i, h, hl => by
    unfold L2.wipe
    by_cases e : v = i
    · subst e
      exact List.getElem?_set_self (by rw [wipe_length]; exact hl)
    · rw [List.getElem?_set_ne e]
      rcases List.mem_cons.mp h with h | h
      · exact absurd h.symm e
      · exact wipe_none h hl
theorem wipe_set {x : Option V} {vs : List Nat} {i : Nat} (h : i ∈ vs) : L2.wipe (σ.set i x) vs = L2.wipe σ vs := by
  apply List.ext_getElem?
  intro j
  by_cases hj : j ∈ vs
  · by_cases hl : j < σ.length
    · rw [wipe_none hj hl, wipe_none hj (by rw [List.length_set]; exact hl)]
    · rw [List.getElem?_eq_none (by rw [wipe_length, List.length_set]; omega), List.getElem?_eq_none (by rw [wipe_length]; omega)]
  · rw [wipe_out hj, wipe_out hj, List.getElem?_set_ne (fun e : i = j => hj (by rw [← e]; exact h))]
theorem wipe_wipe {vs : List Nat} : L2.wipe (L2.wipe σ vs) vs = L2.wipe σ vs := by
  apply List.ext_getElem?
  intro j
  by_cases hj : j ∈ vs
  · by_cases hl : j < σ.length
    · rw [wipe_none hj hl, wipe_none hj (by rw [wipe_length]; exact hl)]
    · rw [List.getElem?_eq_none (by rw [wipe_length, wipe_length]; omega), List.getElem?_eq_none (by rw [wipe_length]; omega)]
  · rw [wipe_out hj, wipe_out hj]
/-- sequencing: first m, then what follows it -/
theorem tD.bind {α : Type} {m : Env → M D} {f : Env → D → M α} {Q : α → Sto → List Addr → Hp → Prop} {K : VK} (r : Rel Γ am S H) (re : RE Γ am H ρ σ) (q : Out Γ am H (wo W σ) Q (((m ρ).bind (f ρ)) S))
    (k : ∀ d S1 am1 H1 v, Rel Γ am1 S1 H1 → RE Γ am1 H1 ρ σ → Ext am H am1 H1 → RD Γ am1 H1 d v → Out Γ am1 H1 (wo W σ) Q (f ρ d S1) → K v H1) : tD Γ W m σ H K :=
  ⟨am, ρ, S, r, re, (Out.bind q).mono fun d S1 am1 H1 e r1 q1 v hv => k d S1 am1 H1 v r1 (re.ext e) e hv q1⟩
theorem tDT.bind {α : Type} {m : Env → M Bool} {f : Env → Bool → M α} {Q : α → Sto → List Addr → Hp → Prop} {K : Bool → Hp → Prop} (r : Rel Γ am S H) (re : RE Γ am H ρ σ) (q : Out Γ am H (wo W σ) Q (((m ρ).bind (f ρ)) S))
    (k : ∀ b S1 am1 H1, Rel Γ am1 S1 H1 → RE Γ am1 H1 ρ σ → Ext am H am1 H1 → Out Γ am1 H1 (wo W σ) Q (f ρ b S1) → K b H1) : tDT Γ W m σ H K :=
  ⟨am, ρ, S, r, re, (Out.bind q).mono fun d S1 am1 H1 e r1 q1 => k d S1 am1 H1 r1 (re.ext e) e q1⟩
theorem tDA.bind {α : Type} {m : Env → M (List D)} {f : Env → List D → M α} {Q : α → Sto → List Addr → Hp → Prop} {K : List V → Hp → Prop} (r : Rel Γ am S H) (re : RE Γ am H ρ σ) (q : Out Γ am H (wo W σ) Q (((m ρ).bind (f ρ)) S))
    (k : ∀ ds S1 am1 H1 vs, Rel Γ am1 S1 H1 → RE Γ am1 H1 ρ σ → Ext am H am1 H1 → RDs Γ am1 H1 ds vs → Out Γ am1 H1 (wo W σ) Q (f ρ ds S1) → K vs H1) : tDA Γ W m σ H K :=
  ⟨am, ρ, S, r, re, (Out.bind q).mono fun d S1 am1 H1 e r1 q1 v hv => k d S1 am1 H1 v r1 (re.ext e) e hv q1⟩
/-- the same for the last one -/
theorem tD.last {m : Env → M D} {K : VK} (r : Rel Γ am S H) (re : RE Γ am H ρ σ) (q : Out Γ am H (wo W σ) (KV Γ K) (m ρ S)) : tD Γ W m σ H K := ⟨am, ρ, S, r, re, q⟩
end
/-! ### by syntax -/
def noStar : Expr → Bool
  | .Starred _ _ => false
  | _ => true
theorem star_cons {env : PySem.Env} {e : Expr} (es : List Expr) (h : noStar e = true) : starEach (e :: es) env = (false, eval e env) :: starEach es env := by
  cases e <;> first | rfl | cases h
theorem star_any {env : PySem.Env} {pos : Pos} : ∀ {es : List Expr}, es.all noStar = true → (backTo pos (starEach es env)).any (·.1) = false
  | [], _ => rfl
  | e :: es, h => by
    rw [List.all_cons, Bool.and_eq_true] at h
    rw [star_cons es h.1]
    show (false || (backTo pos (starEach es env)).any (·.1)) = false
    rw [star_any h.2]
    rfl
def noSlice : Expr → Bool
  | .Slice _ _ _ _ => false
  | _ => true
theorem plain_ix {e : Expr} (h : noSlice e = true) : PlainIx e := by
  cases e <;> first | (intro o i; rfl) | cases h
def noSet : Expr → Bool
  | .Set _ _ _ => false
  | _ => true
theorem no_mark {op : CmpOp} {e : Expr} (h : noSet e = true) : behindInMarks op e = false := by
  cases e <;> first | rfl | cases h
theorem no_fold {env : PySem.Env} {e : Expr} (h : noSet e = true) : ∀ x, foldedSetIterable e env x = pure x := by
  cases e <;> first | (intro _; rfl) | cases h
/-- what is tested by its value's truth -/
def plainTest : Expr → Bool
  | .UnaryOp .Not _ _ => false
  | .BoolOp _ _ _ => false
  | .IfExp _ _ _ _ => false
  | .Compare _ _ _ _ => false
  | _ => true
theorem plain_test {env : PySem.Env} {e : Expr} (h : plainTest e = true) : ∀ whole, isTrue e env whole = (do let v ← whole; standAt e.pos; holding [v] (truthy v)) := by
  cases e with
  | UnaryOp op x p => cases op <;> first | (intro _; rfl) | cases h
  | BoolOp _ _ _ => cases h
  | IfExp _ _ _ _ => cases h
  | Compare _ _ _ _ => cases h
  | _ => intro _; rfl
def noCall : Expr → Bool
  | .Call _ _ _ _ => false
  | _ => true
def okAttr : Expr → Bool
  | .Call (.Name x _) _ _ _ => decide (x ≠ "super")
  | _ => true
theorem attr_base {env : PySem.Env} {e : Expr} {f : Str} (h : okAttr e = true) : attributeBase e f env (eval e env) = eval e env := by
  unfold attributeBase
  split
  · rename_i id p1 p2
    have h' : id ≠ "super" := of_decide_eq_true h
    have : (id != ("super" : Str)) = true := bne_iff_ne.mpr h'
    simp only [this, Bool.true_or, if_true]
  · rfl
end PI

/-! each construct of expressions -/
namespace PI
open PySem PySem.Spec PyProof.Rows L2
/-- the text's tables -/
structure Tb where
  gfn : Str → Option Nat
  gcs : Str → Option D
  fre : Str → Bool
  kn : Nat → List Nat → List Str
  shp : Nat → Nat → List Nat → Bool
/-- what is known where a body (a block) runs -/
structure Good (t : Tb) (Γ : Gm) (C : Cal) (N : List Str) (sc : Scope) (X : Cx) : Prop where
  hN : X.N = N
  nd : X.N.Nodup
  hsc : X.env.scope = sc
  calm : X.calm = true
  hK : Γ.K = X.K
  hcl : ∀ i ds v, Γ.cl i ds v → ∃ a, v = .ref a
  hu : X.A.units + 64 < cLine
  fnm : ∀ x f, t.gfn x = some f → X.mg x = some (.ref (Γ.fa f)) ∧ PySem.W.keepIn X.K (.ref (Γ.fa f)) = true
  cs : ∀ x d, t.gcs x = some d → ∃ u v, X.mg x = some u ∧ RelV v u ∧ ∀ l am H, RD (Γ.h l) am H d v
  fre : ∀ x, t.fre x = true → X.mg x = none
  calls : ∀ X' : Cx, X'.prog = X.prog → X'.w = X.w → X'.K = X.K → X'.mg = X.mg → X'.base = X.base → X'.A = X.A → ∀ (W : WX), Takes X' W →
    ∀ (pins : List (Addr × Obj)) (s : Shared) (σ : L2.St) (H : Hp) (us ws : List Value) (vs zs : List V) (Q : VK) (f : Nat) (ks : List Nat), Inv X' pins σ H s → Vals vs us → Vals zs ws → t.shp f us.length ks = true → ws.length = ks.length →
    (∃ (l : List Addr) (am : List Addr) (S : Sto) (ds es : List D), Rel (Γ.h l) am S H ∧ RDs (Γ.h l) am H ds vs ∧ RDs (Γ.h l) am H es zs ∧ Out (Γ.h l) am H (wo W σ) (KV (Γ.h l) Q) (C f ks (ds ++ es) S)) →
    wpAny (model X'.prog X'.w) X'.A (call (.ref (Γ.fa f)) us ((t.kn f ks).zip ws)) (EP X' pins σ Q) X'.xe s
structure Snd (Γ : Gm) (C : Cal) (X : Cx) (W : WX) (e : E) (a : Expr) : Prop where
  pe : PE X a (tD Γ W (ev C e))
  pt : PT X a (tDT Γ W (fun ρ => (ev C e ρ).bind truM))
section
variable {t : Tb} {Γ : Gm} {C : Cal} {N : List Str} {sc : Scope} {X : Cx} {W : WX}
theorem Snd.of (hK : Γ.K = X.K) {e : E} {a : Expr} (h : PE X a (tD Γ W (ev C e))) (hp : plainTest a = true) : Snd Γ C X W e a := by
  refine ⟨h, PTi (pt_truth h (plain_test hp)) fun σ H Q q => ?_⟩
  obtain ⟨am, ρ, S, r, re, q⟩ := q
  refine tD.bind (f := fun _ => truM) r re q fun d S1 am1 H1 v r1 re1 e1 hv q1 => ?_
  unfold truM M.opt at q1
  cases e2 : tru S1 d with
  | none => rw [e2] at q1; exact q1.elim
  | some b =>
    rw [e2] at q1
    exact ⟨b, tru_v hK r1 hv e2, q1 am1 H1 (.refl _ _) r1⟩
theorem truM_out {am : List Addr} {H : Hp} {S : Sto} {W' : WO} {d : D} {v : V} {α : Type} {f : Bool → M α} {Q : α → Sto → List Addr → Hp → Prop} (hK : Γ.K = X.K) (r : Rel Γ am S H) (h : RD Γ am H d v) (q : Out Γ am H W' Q (((truM d).bind f) S)) :
    ∃ b, TruV X.K v H b ∧ Out Γ am H W' Q (f b S) := by
  unfold truM at q
  cases e : tru S d with
  | none => simp only [M.bind, M.opt, e] at q; exact q.elim
  | some b =>
    simp only [M.bind, M.opt, e] at q
    exact ⟨b, tru_v hK r h e, q⟩
/-! names, constants -/
def okN (x : Str) : Bool := decide (x ≠ "__debug__") && decide (x ≠ "__classdict__") && decide (x ≠ "__name__")
theorem okN_d {x : Str} (h : okN x = true) : (x == ("__debug__" : Str)) = false ∧ (x == ("__classdict__" : Str)) = false ∧ x ≠ "__name__" := by
  unfold okN at h
  rw [Bool.and_eq_true, Bool.and_eq_true] at h
  exact ⟨beq_eq_false_iff_ne.mpr (of_decide_eq_true h.1.1), beq_eq_false_iff_ne.mpr (of_decide_eq_true h.1.2), of_decide_eq_true h.2⟩
def visB (sc : Scope) (x : Str) : Bool := match sc.names.lookup x with
  | some .local => true
  | some .cell => true
  | some .free => true
  | _ => false
theorem vis_of {sc : Scope} {x : Str} (h : visB sc x = true) : Vis sc x := by
  unfold visB at h
  unfold Vis
  split at h
  · rename_i e; exact .inl e
  · rename_i e; exact .inr (.inl e)
  · rename_i e; exact .inr (.inr e)
  · cases h
def glB (sc : Scope) (x : Str) : Bool := match sc.names.lookup x with
  | some .globalImplicit => true
  | _ => false
theorem gl_of (G : Good t Γ C N sc X) {x : Str} (h : glB sc x = true) : Gl X x := by
  unfold glB at h
  split at h
  · rename_i e
    show X.env.kindOf x = _
    have : X.env.scope.names.lookup x = some .globalImplicit := by rw [G.hsc]; exact e
    exact this
  · cases h
def locB (sc : Scope) (x : Str) : Bool := match sc.names.lookup x with
  | some .local => true
  | some .cell => true
  | _ => false
theorem loc_of {sc : Scope} {x : Str} (h : locB sc x = true) : L2.Loc sc x := by
  unfold locB at h
  unfold L2.Loc
  split at h
  · rename_i e; exact .inl e
  · rename_i e; exact .inr e
  · cases h
theorem s_loc (G : Good t Γ C N sc X) {i : Nat} {x : Str} {p : Pos} (hi : N[i]? = some x) (hv : visB sc x = true) (hx : okN x = true) : Snd Γ C X W (.loc i) (.Name x p) := by
  obtain ⟨h1, h2, _⟩ := okN_d hx
  refine Snd.of G.hK (PEi (pe_var (i := i) (by rw [G.hN]; exact hi) (by rw [G.hsc]; exact vis_of hv) h1 h2) fun σ H Q q => ?_) rfl
  obtain ⟨am, ρ, S, r, re, q⟩ := q
  unfold ev M.opt at q
  cases e : ρ[i]? with
  | none => rw [e] at q; exact q.elim
  | some o =>
    cases o with
    | none => rw [e] at q; exact q.elim
    | some d =>
      rw [e] at q
      obtain ⟨v, h3, h4⟩ := re.2 i d e
      exact ⟨v, h3, q am H (.refl _ _) r v h4⟩
theorem s_cst (G : Good t Γ C N sc X) {d : D} {a : Expr} {v : V} (hv : ∀ am H, RD Γ am H d v) (h : PE X a (tC v)) (hp : plainTest a = true) : Snd Γ C X W (.cst d) a := by
  refine Snd.of G.hK (PEi h fun σ H Q q => ?_) hp
  obtain ⟨am, ρ, S, r, re, q⟩ := q
  unfold ev M.ret at q
  exact q am H (.refl _ _) r v (hv am H)
theorem s_gfn (G : Good t Γ C N sc X) {f : Nat} {x : Str} {p : Pos} (hg : glB sc x = true) (hf : t.gfn x = some f) (hx : okN x = true) : Snd Γ C X W (.gfn f) (.Name x p) := by
  refine Snd.of G.hK (PEi (pe_glob (v := .ref (Γ.fa f)) (gl_of G hg) (G.fnm x f hf).1 rfl (okN_d hx).1) fun σ H Q q => ?_) rfl
  obtain ⟨am, ρ, S, r, re, q⟩ := q
  unfold ev M.ret at q
  exact q am H (.refl _ _) r _ (by unfold RD; rfl)
theorem s_gcs (G : Good t Γ C N sc X) {d : D} {x : Str} {p : Pos} (hg : glB sc x = true) (hf : t.gcs x = some d) (hx : okN x = true) : Snd Γ C X W (.cst d) (.Name x p) := by
  obtain ⟨u, v, h1, h2, h3⟩ := G.cs x d hf
  exact s_cst G (h3 Γ.hid) (pe_glob (gl_of G hg) h1 h2 (okN_d hx).1) rfl
/-! operators -/
section
variable {a b c : E} {x y z : Expr} {p : Pos}
theorem s_bin (G : Good t Γ C N sc X) (op : BOp) (ha : Snd Γ C X W a x) (hb : Snd Γ C X W b y) : Snd Γ C X W (.bin op a b) (.BinOp x op.opr y p) := by
  refine Snd.of G.hK (PEi (pe_op (bin_ok G.hK op) ha.pe hb.pe) fun σ H Q q => ?_) rfl
  obtain ⟨am, ρ, S, r, re, q⟩ := q
  unfold ev at q
  refine tD.bind (f := fun ρ x => (ev C b ρ).bind fun y => binop op x y) r re q fun d S1 am1 H1 v r1 re1 e1 hv q1 => ?_
  exact tD.bind (f := fun _ y => binop op d y) r1 re1 q1 fun e S2 am2 H2 u r2 re2 e2 hu q2 => ⟨_, am2, S2, d, e, r2, hv.ext e2, hu, q2⟩
theorem s_un (G : Good t Γ C N sc X) {g : Int → Int} {op : UnaryOp} {k : E} (ho : UnR X (unaryOp op) (rU fun i => .int (g i))) (ha : Snd Γ C X W a x) (hk : ∀ ρ, ev C k ρ = (ev C a ρ).bind (unopI g)) (hp : plainTest (.UnaryOp op x p) = true) : Snd Γ C X W k (.UnaryOp op x p) := by
  refine Snd.of G.hK (PEi (pe_un ho ha.pe) fun σ H Q q => ?_) hp
  obtain ⟨am, ρ, S, r, re, q⟩ := q
  rw [hk] at q
  refine tD.bind (f := fun _ => unopI g) r re q fun d S1 am1 H1 v r1 re1 e1 hv q1 => ?_
  unfold unopI at q1
  split at q1
  · exact ⟨_, hv.intv, q1 am1 H1 (.refl _ _) r1 _ (by unfold RD; rfl)⟩
  · exact q1.elim
theorem s_not (G : Good t Γ C N sc X) (ha : Snd Γ C X W a x) : Snd Γ C X W (.not a) (.UnaryOp .Not x p) := by
  constructor
  · refine PEi (pe_notT ha.pe) fun σ H Q q => ?_
    obtain ⟨am, ρ, S, r, re, q⟩ := q
    unfold ev at q
    refine tD.bind (f := fun _ x => (truM x).bind fun b => M.ret (D.bl (!b))) r re q fun d S1 am1 H1 v r1 re1 e1 hv q1 => ?_
    obtain ⟨k, h1, h2⟩ := truM_out G.hK r1 hv q1
    exact ⟨k, h1, h2 am1 H1 (.refl _ _) r1 _ (by unfold RD; rfl)⟩
  · refine PTi (pt_not ha.pt) fun σ H Q q => ?_
    obtain ⟨am, ρ, S, r, re, q⟩ := q
    have q' : Out Γ am H (wo W σ) (fun b _ _ H' => Q b H') ((((ev C a ρ).bind truM).bind fun b => M.ret (!b)) S) := by
      unfold ev at q
      have e : (((ev C a ρ).bind fun x => (truM x).bind fun b => M.ret (D.bl (!b))).bind truM) S = ((((ev C a ρ).bind truM).bind fun b => M.ret (!b)) S) := by
        unfold M.bind M.ret
        cases ev C a ρ S with
        | ok d S1 =>
          dsimp only
          cases truM d S1 <;> rfl
        | exc c fs S1 => rfl
        | bad => rfl
      rw [← e]
      exact q
    exact tDT.bind (m := fun ρ => (ev C a ρ).bind truM) (f := fun _ b => M.ret (!b)) r re q' fun b S1 am1 H1 r1 re1 e1 q1 => q1 am1 H1 (.refl _ _) r1
/-! comparisons -/
theorem cmp_split {am : List Addr} {H : Hp} {S : Sto} {W' : WO} {α : Type} {op : COp} {d e : D} {f : Bool → M α} {Q : α → Sto → List Addr → Hp → Prop} (q : Out Γ am H W' Q (((cmpop op d e).bind f) S)) :
    ∃ b, cmpop op d e S = .ok b S ∧ Out Γ am H W' Q (f b S) := by
  unfold M.bind at q
  have : (∃ b, cmpop op d e S = .ok b S) ∨ cmpop op d e S = .bad := by
    unfold cmpop M.opt
    split
    · exact .inl ⟨_, rfl⟩
    · exact .inr rfl
  rcases this with ⟨b, hb⟩ | hb
  · rw [hb] at q
    exact ⟨b, hb, q⟩
  · rw [hb] at q
    exact q.elim
theorem cmpD_ok {S : Sto} {op : COp} {d e : D} {b : Bool} (h : cmpop op d e S = .ok b S) : cmpD op d e S = .ok (.bl b) S := by
  unfold cmpD M.bind
  rw [h]
  rfl
theorem rB_cmp {am : List Addr} {H : Hp} {S : Sto} {W' : WO} {op : COp} {d e : D} {v u : V} {b : Bool} {Q : VK} (r : Rel Γ am S H) (hd : RD Γ am H d v) (he : RD Γ am H e u) (h : cmpop op d e S = .ok b S)
    (q : ∀ am' H', Ext am H am' H' → Rel Γ am' S H' → Q (.bl b) H') : rB Γ (cmpD op) v u H Q := by
  refine ⟨fun _ _ _ => False, am, S, d, e, r, hd, he, ?_⟩
  rw [cmpD_ok h]
  intro am' H' e1 r1 z hz
  rw [hz.blv]
  exact q am' H' e1 r1
theorem s_cmp (G : Good t Γ C N sc X) (op : COp) (ha : Snd Γ C X W a x) (hb : Snd Γ C X W b y) (hm : noSet y = true) : Snd Γ C X W (.cmp op a b) (.Compare x [op.opr] [y] p) := by
  have ho := cmp_ok (X := X) (Γ := Γ) G.hK G.hcl G.hu op
  constructor
  · refine PEi (pe_cmpR ho ha.pe hb.pe (no_mark hm)) fun σ H Q q => ?_
    obtain ⟨am, ρ, S, r, re, q⟩ := q
    unfold ev at q
    refine tD.bind (f := fun ρ x => (ev C b ρ).bind fun y => (cmpop op x y).bind fun b => M.ret (D.bl b)) r re q fun d S1 am1 H1 v r1 re1 e1 hv q1 => ?_
    refine tD.bind (f := fun _ y => (cmpop op d y).bind fun b => M.ret (D.bl b)) r1 re1 q1 fun e S2 am2 H2 u r2 re2 e2 hu q2 => ?_
    obtain ⟨k, hk, q3⟩ := cmp_split q2
    exact rB_cmp (W' := wo W σ) r2 (hv.ext e2) hu hk fun am' H' e3 r3 => q3 am' H' e3 r3 _ (by unfold RD; rfl)
  · refine PTi (pt_cmpR ho ha.pe hb.pe (no_mark hm)) fun σ H Q q => ?_
    obtain ⟨am, ρ, S, r, re, q⟩ := q
    have q' : Out Γ am H (wo W σ) (fun b _ _ H' => Q b H') (((ev C a ρ).bind fun x => (ev C b ρ).bind fun y => cmpop op x y) S) := by
      unfold ev at q
      have e : (((ev C a ρ).bind fun x => (ev C b ρ).bind fun y => (cmpop op x y).bind fun b => M.ret (D.bl b)).bind truM) S = (((ev C a ρ).bind fun x => (ev C b ρ).bind fun y => cmpop op x y) S) := by
        unfold M.bind M.ret
        cases ev C a ρ S with
        | ok d S1 =>
          dsimp only
          cases ev C b ρ S1 with
          | ok e S2 =>
            dsimp only
            cases cmpop op d e S2 <;> rfl
          | exc c fs S1 => rfl
          | bad => rfl
        | exc c fs S1 => rfl
        | bad => rfl
      rw [← e]
      exact q
    refine tD.bind (f := fun ρ x => (ev C b ρ).bind fun y => cmpop op x y) r re q' fun d S1 am1 H1 v r1 re1 e1 hv q1 => ?_
    refine tD.bind (f := fun _ y => cmpop op d y) r1 re1 q1 fun e S2 am2 H2 u r2 re2 e2 hu q2 => ?_
    have q2' : Out Γ am2 H2 (wo W σ) (fun b _ _ H' => Q b H') (((cmpop op d e).bind fun b => M.ret b) S2) := by
      unfold M.bind M.ret
      cases e5 : cmpop op d e S2 with
      | ok b S3 => rw [e5] at q2; exact q2
      | exc c fs S3 => rw [e5] at q2; exact q2
      | bad => rw [e5] at q2; exact q2
    obtain ⟨k, hk, q3⟩ := cmp_split q2'
    exact rB_cmp (W' := wo W σ) r2 (hv.ext e2) hu hk fun am' H' e3 r3 => ⟨k, rfl, q3 am' H' e3 r3⟩
end
end
end PI

/-! each construct of expressions, further -/
namespace PI
open PySem PySem.Spec PyProof.Rows L2
section
variable {t : Tb} {Γ : Gm} {C : Cal} {N : List Str} {sc : Scope} {X : Cx} {W : WX} {a b c : E} {x y z : Expr} {p : Pos}
theorem last_mark {o1 o2 : CmpOp} {y z : Expr} (h : noSet z = true) : lastMarks [o1, o2] [y, z] = false := no_mark h
theorem s_chn (G : Good t Γ C N sc X) (o1 o2 : COp) (ha : Snd Γ C X W a x) (hb : Snd Γ C X W b y) (hc : Snd Γ C X W c z) (hm : noSet z = true) : Snd Γ C X W (.chn o1 o2 a b c) (.Compare x [o1.opr, o2.opr] [y, z] p) := by
  have h1 := cmp_ok (X := X) (Γ := Γ) G.hK G.hcl G.hu o1
  have h2 := cmp_ok (X := X) (Γ := Γ) G.hK G.hcl G.hu o2
  constructor
  · refine PEi (pe_chain h1 h2 ha.pe hb.pe hc.pe (last_mark hm)) fun σ H Q q => ?_
    obtain ⟨am, ρ, S, r, re, q⟩ := q
    unfold ev at q
    refine tD.bind (f := fun ρ x => (ev C b ρ).bind fun y => (cmpop o1 x y).bind fun k => if k then (ev C c ρ).bind fun z => (cmpop o2 y z).bind fun b => M.ret (D.bl b) else M.ret (D.bl false)) r re q fun d S1 am1 H1 v r1 re1 e1 hv q1 => ?_
    refine tD.bind (f := fun ρ y => (cmpop o1 d y).bind fun k => if k then (ev C c ρ).bind fun z => (cmpop o2 y z).bind fun b => M.ret (D.bl b) else M.ret (D.bl false)) r1 re1 q1 fun e S2 am2 H2 u r2 re2 e2 hu q2 => ?_
    obtain ⟨k, hk, q3⟩ := cmp_split q2
    refine rB_cmp (W' := wo W σ) r2 (hv.ext e2) hu hk fun am3 H3 e3 r3 => ⟨k, rfl, ?_⟩
    have q3' : Out Γ am3 H3 (wo W σ) (KV Γ Q) ((if k then (ev C c ρ).bind fun z => (cmpop o2 e z).bind fun b => M.ret (D.bl b) else M.ret (D.bl false)) S2) := q3.later e3
    cases k with
    | true =>
      refine tD.bind (f := fun _ z => (cmpop o2 e z).bind fun b => M.ret (D.bl b)) r3 (re2.ext e3) q3' fun g S4 am4 H4 w' r4 re4 e4 hw q4 => ?_
      obtain ⟨k2, hk2, q5⟩ := cmp_split q4
      exact rB_cmp (W' := wo W σ) r4 (hu.ext (e3.trans e4)) hw hk2 fun am5 H5 e5 r5 => q5 am5 H5 e5 r5 _ (by unfold RD; rfl)
    | false => exact q3' am3 H3 (.refl _ _) r3 _ (by unfold RD; rfl)
  · refine PTi (pt_chain h1 h2 ha.pe hb.pe hc.pe (last_mark hm)) fun σ H Q q => ?_
    obtain ⟨am, ρ, S, r, re, q⟩ := q
    have q' : Out Γ am H (wo W σ) (fun b _ _ H' => Q b H') (((ev C a ρ).bind fun x => (ev C b ρ).bind fun y => (cmpop o1 x y).bind fun k => if k then (ev C c ρ).bind fun z => (cmpop o2 y z).bind fun b => M.ret b else M.ret false) S) := by
      unfold ev at q
      have e : (((ev C a ρ).bind fun x => (ev C b ρ).bind fun y => (cmpop o1 x y).bind fun k => if k then (ev C c ρ).bind fun z => (cmpop o2 y z).bind fun b => M.ret (D.bl b) else M.ret (D.bl false)).bind truM) S
          = (((ev C a ρ).bind fun x => (ev C b ρ).bind fun y => (cmpop o1 x y).bind fun k => if k then (ev C c ρ).bind fun z => (cmpop o2 y z).bind fun b => M.ret b else M.ret false) S) := by
        unfold M.bind M.ret
        cases ev C a ρ S with
        | ok d S1 =>
          dsimp only
          cases ev C b ρ S1 with
          | ok e S2 =>
            dsimp only
            cases cmpop o1 d e S2 with
            | ok k S3 =>
              cases k with
              | true =>
                simp only [if_true]
                cases ev C c ρ S3 with
                | ok g S4 =>
                  dsimp only
                  cases cmpop o2 e g S4 <;> rfl
                | exc c fs S1 => rfl
                | bad => rfl
              | false => rfl
            | exc c fs S1 => rfl
            | bad => rfl
          | exc c fs S1 => rfl
          | bad => rfl
        | exc c fs S1 => rfl
        | bad => rfl
      rw [← e]
      exact q
    refine tD.bind (f := fun ρ x => (ev C b ρ).bind fun y => (cmpop o1 x y).bind fun k => if k then (ev C c ρ).bind fun z => (cmpop o2 y z).bind fun b => M.ret b else M.ret false) r re q' fun d S1 am1 H1 v r1 re1 e1 hv q1 => ?_
    refine tD.bind (f := fun ρ y => (cmpop o1 d y).bind fun k => if k then (ev C c ρ).bind fun z => (cmpop o2 y z).bind fun b => M.ret b else M.ret false) r1 re1 q1 fun e S2 am2 H2 u r2 re2 e2 hu q2 => ?_
    obtain ⟨k, hk, q3⟩ := cmp_split q2
    refine rB_cmp (W' := wo W σ) r2 (hv.ext e2) hu hk fun am3 H3 e3 r3 => ⟨k, rfl, ?_⟩
    have q3' : Out Γ am3 H3 (wo W σ) (fun b _ _ H' => Q b H') ((if k then (ev C c ρ).bind fun z => (cmpop o2 e z).bind fun b => M.ret b else M.ret false) S2) := q3.later e3
    cases k with
    | true =>
      refine tD.bind (f := fun _ z => (cmpop o2 e z).bind fun b => M.ret b) r3 (re2.ext e3) q3' fun g S4 am4 H4 w' r4 re4 e4 hw q4 => ?_
      obtain ⟨k2, hk2, q5⟩ := cmp_split q4
      exact rB_cmp (W' := wo W σ) r4 (hu.ext (e3.trans e4)) hw hk2 fun am5 H5 e5 r5 => ⟨k2, rfl, q5 am5 H5 e5 r5⟩
    | false => exact ⟨false, rfl, q3' am3 H3 (.refl _ _) r3⟩
/-! and, or, if else -/
theorem tru_idem (k : Bool) (d : D) (S : Sto) (h : tru S d = some k) {α : Type} (f g : α) : True := trivial
theorem evT_and {ρ : Env} {S : Sto} : (((ev C a ρ).bind fun x => (truM x).bind fun k => if k then ev C b ρ else M.ret x).bind truM) S = ((((ev C a ρ).bind truM).bind fun k => if k then (ev C b ρ).bind truM else M.ret false) S) := by
  unfold M.bind M.ret truM M.opt
  cases ev C a ρ S with
  | ok d S1 =>
    dsimp only
    cases e : tru S1 d with
    | none => rfl
    | some k =>
      cases k with
      | true => rfl
      | false => simp [e]
  | exc c fs S1 => rfl
  | bad => rfl
theorem evT_or {ρ : Env} {S : Sto} : (((ev C a ρ).bind fun x => (truM x).bind fun k => if k then M.ret x else ev C b ρ).bind truM) S = ((((ev C a ρ).bind truM).bind fun k => if k then M.ret true else (ev C b ρ).bind truM) S) := by
  unfold M.bind M.ret truM M.opt
  cases ev C a ρ S with
  | ok d S1 =>
    dsimp only
    cases e : tru S1 d with
    | none => rfl
    | some k =>
      cases k with
      | false => rfl
      | true => simp [e]
  | exc c fs S1 => rfl
  | bad => rfl
/-- the rest of an and, an or -/
structure SndB (Γ : Gm) (C : Cal) (X : Cx) (W : WX) (e : E) (a : Expr) : Prop where
  pe : PE X a (tD Γ W (ev C e))
  pw : PW X a (tDT Γ W (fun ρ => (ev C e ρ).bind truM))
theorem SndB.one (h : Snd Γ C X W b y) (op : BoolOp) : SndB Γ C X W b (.BoolOp op [y] p) := ⟨pe_one h.pe, by cases op <;> first | exact pw_and1 h.pt | exact pw_or1 h.pt⟩
theorem SndB.of {op : BoolOp} {l : List Expr} (h : Snd Γ C X W b (.BoolOp op l p)) : SndB Γ C X W b (.BoolOp op l p) := ⟨h.pe, ⟨fun whole => h.pt.run⟩⟩
theorem s_and (G : Good t Γ C N sc X) {l : List Expr} (ha : Snd Γ C X W a x) (hb : SndB Γ C X W b (.BoolOp .And (y :: l) p)) : Snd Γ C X W (.and a b) (.BoolOp .And (x :: y :: l) p) := by
  constructor
  · refine PEi (pe_andT ha.pe hb.pe) fun σ H Q q => ?_
    obtain ⟨am, ρ, S, r, re, q⟩ := q
    unfold ev at q
    refine tD.bind (f := fun ρ x => (truM x).bind fun k => if k then ev C b ρ else M.ret x) r re q fun d S1 am1 H1 v r1 re1 e1 hv q1 => ?_
    obtain ⟨k, h1, h2⟩ := truM_out G.hK r1 hv q1
    refine ⟨k, h1, ?_⟩
    cases k with
    | true => exact tD.last r1 re1 h2
    | false => exact h2 am1 H1 (.refl _ _) r1 v hv
  · refine PTi (PW.pt (pw_and ha.pt hb.pw)) fun σ H Q q => ?_
    obtain ⟨am, ρ, S, r, re, q⟩ := q
    unfold ev at q
    dsimp only at q
    rw [evT_and] at q
    refine tDT.bind (m := fun ρ => (ev C a ρ).bind truM) (f := fun ρ k => if k then (ev C b ρ).bind truM else M.ret false) r re q fun k S1 am1 H1 r1 re1 e1 q1 => ?_
    cases k with
    | true => exact ⟨am1, ρ, S1, r1, re1, q1⟩
    | false => exact q1 am1 H1 (.refl _ _) r1
theorem s_or (G : Good t Γ C N sc X) {l : List Expr} (ha : Snd Γ C X W a x) (hb : SndB Γ C X W b (.BoolOp .Or (y :: l) p)) : Snd Γ C X W (.or a b) (.BoolOp .Or (x :: y :: l) p) := by
  constructor
  · refine PEi (pe_orT ha.pe hb.pe) fun σ H Q q => ?_
    obtain ⟨am, ρ, S, r, re, q⟩ := q
    unfold ev at q
    refine tD.bind (f := fun ρ x => (truM x).bind fun k => if k then M.ret x else ev C b ρ) r re q fun d S1 am1 H1 v r1 re1 e1 hv q1 => ?_
    obtain ⟨k, h1, h2⟩ := truM_out G.hK r1 hv q1
    refine ⟨k, h1, ?_⟩
    cases k with
    | true => exact h2 am1 H1 (.refl _ _) r1 v hv
    | false => exact tD.last r1 re1 h2
  · refine PTi (PW.pt (pw_or ha.pt hb.pw)) fun σ H Q q => ?_
    obtain ⟨am, ρ, S, r, re, q⟩ := q
    unfold ev at q
    dsimp only at q
    rw [evT_or] at q
    refine tDT.bind (m := fun ρ => (ev C a ρ).bind truM) (f := fun ρ k => if k then M.ret true else (ev C b ρ).bind truM) r re q fun k S1 am1 H1 r1 re1 e1 q1 => ?_
    cases k with
    | true => exact q1 am1 H1 (.refl _ _) r1
    | false => exact ⟨am1, ρ, S1, r1, re1, q1⟩
theorem pt_ifExp {tc ta tb : TT} (hc : PT X z tc) (ha : PT X x ta) (hb : PT X y tb) : PT X (.IfExp z x y p) (fun σ H Q => tc σ H fun k H1 => if k = true then ta σ H1 Q else tb σ H1 Q) := by
  refine ⟨fun pins s σ H Q I h => ?_⟩
  show wpAny _ _ (isTrue z X.env (eval z X.env) >>= fun k => if k = true then isTrue x X.env (eval x X.env) else isTrue y X.env (eval y X.env)) _ _ s
  refine wpAny_bind (thn (hc.run pins s σ H _ I h) fun d s1 ⟨H1, I1, q1⟩ => ?_)
  cases d with
  | true => exact ha.run pins s1 σ H1 Q I1 q1
  | false => exact hb.run pins s1 σ H1 Q I1 q1
theorem ev_ite {ρ : Env} {S : Sto} : (((ev C c ρ).bind fun x => (truM x).bind fun k => if k then ev C a ρ else ev C b ρ)) S = ((((ev C c ρ).bind truM).bind fun k => if k then ev C a ρ else ev C b ρ) S) := by
  unfold M.bind
  cases ev C c ρ S <;> rfl
theorem evT_ite {ρ : Env} {S : Sto} : (((ev C c ρ).bind fun x => (truM x).bind fun k => if k then ev C a ρ else ev C b ρ).bind truM) S = ((((ev C c ρ).bind truM).bind fun k => if k then (ev C a ρ).bind truM else (ev C b ρ).bind truM) S) := by
  unfold M.bind truM M.opt
  cases ev C c ρ S with
  | ok d S1 =>
    dsimp only
    cases tru S1 d with
    | none => rfl
    | some k => cases k <;> rfl
  | exc c fs S1 => rfl
  | bad => rfl
theorem s_ite (G : Good t Γ C N sc X) (hc : Snd Γ C X W c z) (ha : Snd Γ C X W a x) (hb : Snd Γ C X W b y) : Snd Γ C X W (.ite c a b) (.IfExp z x y p) := by
  constructor
  · refine PEi (pe_ifExp hc.pt ha.pe hb.pe) fun σ H Q q => ?_
    obtain ⟨am, ρ, S, r, re, q⟩ := q
    unfold ev at q
    rw [ev_ite] at q
    refine tDT.bind (m := fun ρ => (ev C c ρ).bind truM) (f := fun ρ k => if k then ev C a ρ else ev C b ρ) r re q fun k S1 am1 H1 r1 re1 e1 q1 => ?_
    cases k with
    | true => exact ⟨am1, ρ, S1, r1, re1, q1⟩
    | false => exact ⟨am1, ρ, S1, r1, re1, q1⟩
  · refine PTi (pt_ifExp hc.pt ha.pt hb.pt) fun σ H Q q => ?_
    obtain ⟨am, ρ, S, r, re, q⟩ := q
    unfold ev at q
    dsimp only at q
    rw [evT_ite] at q
    refine tDT.bind (m := fun ρ => (ev C c ρ).bind truM) (f := fun ρ k => if k then (ev C a ρ).bind truM else (ev C b ρ).bind truM) r re q fun k S1 am1 H1 r1 re1 e1 q1 => ?_
    cases k with
    | true => exact ⟨am1, ρ, S1, r1, re1, q1⟩
    | false => exact ⟨am1, ρ, S1, r1, re1, q1⟩
/-! displays -/
theorem newL_ok {am : List Addr} {H : Hp} {S : Sto} {W' : WO} {Q : VK} {fz : Bool} {ds : List D} {vs : List V} (r : Rel Γ am S H) (h : RDs Γ am H ds vs) (q : Out Γ am H W' (KV Γ Q) (newL fz ds S)) :
    vs.length ≤ sizeLine ∧ ∀ p, H p = none → Q (.ref p) (upd H p (.lst vs)) := by
  unfold newL at q
  split at q
  · rename_i hl
    refine ⟨by rw [h.length, ← lim_eq]; exact hl, fun p hp => ?_⟩
    split at q
    · exact new_lst r h q p hp
    · refine q (am ++ [p]) _ (Ext.grow hp) (r.grow hp h) _ ?_
      unfold RD
      exact ⟨p, by rw [← r.len]; simp, rfl⟩
  · exact q.elim
variable {es : Es} {l : List Expr}
theorem s_tup (G : Good t Γ C N sc X) {k : Nat} (h : PA X l (tDA Γ W (evs C es))) : Snd Γ C X W (.tup es) (.Tuple l k p) := by
  refine Snd.of G.hK (PEi (pe_tup h) fun σ H Q q => ?_) rfl
  obtain ⟨am, ρ, S, r, re, q⟩ := q
  unfold ev at q
  refine tDA.bind (f := fun _ ds => if ds.length ≤ lim then M.ret (D.tup ds) else M.fail) r re q fun ds S1 am1 H1 vs r1 re1 e1 hv q1 => ?_
  split at q1
  · rename_i hl
    exact ⟨by rw [hv.length, ← lim_eq]; exact hl, new_tup r1 hv q1⟩
  · exact q1.elim
theorem s_lst (G : Good t Γ C N sc X) {fz : Bool} (h : PA X l (tDA Γ W (evs C es))) : Snd Γ C X W (.lst fz es) (.List l p) := by
  refine Snd.of G.hK (PEi (pe_lst h) fun σ H Q q => ?_) rfl
  obtain ⟨am, ρ, S, r, re, q⟩ := q
  unfold ev at q
  exact tDA.bind (f := fun _ ds => newL fz ds) r re q fun ds S1 am1 H1 vs r1 re1 e1 hv q1 => newL_ok r1 hv q1
theorem a_nil : PA X [] (tDA Γ W (evs C .nil)) := PAi pa_nil fun σ H Q q => by
  obtain ⟨am, ρ, S, r, re, q⟩ := q
  unfold evs M.ret at q
  exact q am H (.refl _ _) r _ RDs.nil
theorem a_cons (ha : Snd Γ C X W a x) (hs : noStar x = true) (h : PA X l (tDA Γ W (evs C es))) : PA X (x :: l) (tDA Γ W (evs C (.cons a es))) := PAi (pa_cons ha.pe h (star_cons l hs)) fun σ H Q q => by
  obtain ⟨am, ρ, S, r, re, q⟩ := q
  unfold evs at q
  refine tD.bind (f := fun ρ d => (evs C es ρ).bind fun ds => M.ret (d :: ds)) r re q fun d S1 am1 H1 v r1 re1 e1 hv q1 => ?_
  exact tDA.bind (f := fun _ ds => M.ret (d :: ds)) r1 re1 q1 fun ds S2 am2 H2 vs r2 re2 e2 hvs q2 => q2 am2 H2 (.refl _ _) r2 _ (RDs.cons (hv.ext e2) hvs)
/-! subscripts -/
theorem s_idx (G : Good t Γ C N sc X) (ha : Snd Γ C X W a x) (hb : Snd Γ C X W b y) (hn : noSlice y = true) : Snd Γ C X W (.idx a b) (.Subscript x y p) := by
  refine Snd.of G.hK (PEi (pe_ix (ix_ok (X := X) (Γ := Γ) G.hK) ha.pe hb.pe (plain_ix hn)) fun σ H Q q => ?_) rfl
  obtain ⟨am, ρ, S, r, re, q⟩ := q
  unfold ev at q
  refine tD.bind (f := fun ρ x => (ev C b ρ).bind fun y => idxop x y) r re q fun d S1 am1 H1 v r1 re1 e1 hv q1 => ?_
  exact tD.bind (f := fun _ y => idxop d y) r1 re1 q1 fun e S2 am2 H2 u r2 re2 e2 hu q2 => ⟨wo W σ, am2, S2, d, e, r2, hv.ext e2, hu, q2⟩
theorem toInt_out {am : List Addr} {H : Hp} {S : Sto} {W' : WO} {d : D} {v : V} {α : Type} {f : Int → M α} {Q : α → Sto → List Addr → Hp → Prop} (h : RD Γ am H d v) (q : Out Γ am H W' Q (((M.opt (toInt d)).bind f) S)) :
    ∃ i, v = .int i ∧ Out Γ am H W' Q (f i S) := by
  cases d with
  | int i => exact ⟨i, h.intv, q⟩
  | _ => exact q.elim
theorem s_slL (G : Good t Γ C N sc X) {p2 : Pos} (ha : Snd Γ C X W a x) (hb : Snd Γ C X W b y) : Snd Γ C X W (.slL a b) (.Subscript x (.Slice (some y) none none p2) p) := by
  refine Snd.of G.hK (PEi (pe_slice (sl_ok (X := X) (Γ := Γ) G.hK) ha.pe (po_some hb.pe) po_none) fun σ H Q q => ?_) rfl
  obtain ⟨am, ρ, S, r, re, q⟩ := q
  unfold ev at q
  refine tD.bind (f := fun ρ x => (ev C b ρ).bind fun y => (M.opt (toInt y)).bind fun i => slcop x (some i) none) r re q fun d S1 am1 H1 v r1 re1 e1 hv q1 => ?_
  refine tD.bind (f := fun _ y => (M.opt (toInt y)).bind fun i => slcop d (some i) none) r1 re1 q1 fun e S2 am2 H2 u r2 re2 e2 hu q2 => ?_
  obtain ⟨i, h1, h2⟩ := toInt_out hu q2
  exact ⟨i, h1, wo W σ, am2, S2, d, r2, hv.ext e2, h2⟩
theorem s_slU (G : Good t Γ C N sc X) {p2 : Pos} (ha : Snd Γ C X W a x) (hb : Snd Γ C X W b y) : Snd Γ C X W (.slU a b) (.Subscript x (.Slice none (some y) none p2) p) := by
  refine Snd.of G.hK (PEi (pe_slice (sl_ok (X := X) (Γ := Γ) G.hK) ha.pe po_none (po_some hb.pe)) fun σ H Q q => ?_) rfl
  obtain ⟨am, ρ, S, r, re, q⟩ := q
  unfold ev at q
  refine tD.bind (f := fun ρ x => (ev C b ρ).bind fun y => (M.opt (toInt y)).bind fun i => slcop x none (some i)) r re q fun d S1 am1 H1 v r1 re1 e1 hv q1 => ?_
  refine tD.bind (f := fun _ y => (M.opt (toInt y)).bind fun i => slcop d none (some i)) r1 re1 q1 fun e S2 am2 H2 u r2 re2 e2 hu q2 => ?_
  obtain ⟨i, h1, h2⟩ := toInt_out hu q2
  exact ⟨i, h1, wo W σ, am2, S2, d, r2, hv.ext e2, h2⟩
theorem s_slLU (G : Good t Γ C N sc X) {p2 : Pos} (ha : Snd Γ C X W a x) (hb : Snd Γ C X W b y) (hc : Snd Γ C X W c z) : Snd Γ C X W (.slLU a b c) (.Subscript x (.Slice (some y) (some z) none p2) p) := by
  refine Snd.of G.hK (PEi (pe_slice (sl_ok (X := X) (Γ := Γ) G.hK) ha.pe (po_some hb.pe) (po_some hc.pe)) fun σ H Q q => ?_) rfl
  obtain ⟨am, ρ, S, r, re, q⟩ := q
  unfold ev at q
  refine tD.bind (f := fun ρ x => (ev C b ρ).bind fun y => (M.opt (toInt y)).bind fun i => (ev C c ρ).bind fun z => (M.opt (toInt z)).bind fun j => slcop x (some i) (some j)) r re q fun d S1 am1 H1 v r1 re1 e1 hv q1 => ?_
  refine tD.bind (f := fun ρ y => (M.opt (toInt y)).bind fun i => (ev C c ρ).bind fun z => (M.opt (toInt z)).bind fun j => slcop d (some i) (some j)) r1 re1 q1 fun e S2 am2 H2 u r2 re2 e2 hu q2 => ?_
  obtain ⟨i, h1, h2⟩ := toInt_out hu q2
  refine ⟨i, h1, ?_⟩
  refine tD.bind (f := fun _ z => (M.opt (toInt z)).bind fun j => slcop d (some i) (some j)) r2 re2 h2 fun g S3 am3 H3 w' r3 re3 e3 hw q3 => ?_
  obtain ⟨j, h3, h4⟩ := toInt_out hw q3
  exact ⟨j, h3, wo W σ, am3, S3, d, r3, hv.ext (e2.trans e3), h4⟩
theorem s_rev (G : Good t Γ C N sc X) {k : Nat} {p1 p2 p3 : Pos} (ha : Snd Γ C X W a x) : Snd Γ C X W (.rev a) (.Subscript x (.Slice none none (some (.UnaryOp .USub (.Constant (.int 1) k p1) p2)) p3) p) := by
  refine Snd.of G.hK (PEi (revA_ok ha.pe) fun σ H Q q => ?_) rfl
  obtain ⟨am, ρ, S, r, re, q⟩ := q
  unfold ev at q
  refine tD.bind (f := fun _ x => revop x) r re q fun d S1 am1 H1 v r1 re1 e1 hv q1 => ?_
  unfold revop M.opt at q1
  split at q1
  · rename_i o e0
    split at e0
    · rename_i xs e2
      cases e0
      rw [deref_tup e2] at hv
      obtain ⟨a, vs, rfl, h1, h2⟩ := hv.tupv
      exact ⟨a, vs, rfl, .inr ⟨G.hK ▸ h1.sq, new_tup r1 h2.reverse q1⟩⟩
    · rename_i xs e2
      cases e0
      obtain ⟨a, vs, rfl, h1, h2⟩ := deref_lst r1 hv e2
      exact ⟨a, vs, rfl, .inl ⟨.of h1, new_lst r1 h2.reverse q1⟩⟩
    · cases e0
  · exact q1.elim
end
end PI

/-! calls, walks, comprehensions -/
namespace PI
open PySem PySem.Spec PyProof.Rows L2
def Es.len : Es → Nat
  | .nil => 0
  | .cons _ es => es.len + 1
theorem evs_len {C : Cal} {ρ : Env} : ∀ {es : Es} {S S' : Sto} {ds : List D}, evs C es ρ S = .ok ds S' → ds.length = es.len
  | .nil, S, S', ds, h => by
    unfold evs M.ret at h
    cases h
    rfl
  | .cons e es, S, S', ds, h => by
    unfold evs M.bind at h
    split at h
    · dsimp only at h
      split at h
      · rename_i d S1 h1 ds' S2 h2
        unfold M.ret at h
        cases h
        show ds'.length + 1 = es.len + 1
        rw [evs_len h2]
      · cases h
      · cases h
    · cases h
    · cases h
section
variable {t : Tb} {Γ : Gm} {C : Cal} {N : List Str} {sc : Scope} {X : Cx} {W : WX} {a b c : E} {x y z : Expr} {p : Pos} {es kes : Es} {l : List Expr} {kws : List Keyword}
theorem tDA.bindE {am : List Addr} {H : Hp} {S : Sto} {ρ : Env} {σ : L2.St} {α : Type} {m : Env → M (List D)} {f : Env → List D → M α} {Q : α → Sto → List Addr → Hp → Prop} {K : List V → Hp → Prop} (r : Rel Γ am S H) (re : RE Γ am H ρ σ) (q : Out Γ am H (wo W σ) Q (((m ρ).bind (f ρ)) S))
    (k : ∀ ds S1 am1 H1 vs, m ρ S = .ok ds S1 → Rel Γ am1 S1 H1 → RE Γ am1 H1 ρ σ → Ext am H am1 H1 → RDs Γ am1 H1 ds vs → Out Γ am1 H1 (wo W σ) Q (f ρ ds S1) → K vs H1) : tDA Γ W m σ H K := by
  refine ⟨am, ρ, S, r, re, ?_⟩
  have q' := Out.bind q
  cases e : m ρ S with
  | ok ds S1 =>
    rw [e] at q'
    exact fun am1 H1 e1 r1 v hv => k ds S1 am1 H1 v e r1 (re.ext e1) e1 hv (q' am1 H1 e1 r1)
  | exc c fs S1 =>
    rw [e] at q'
    exact q'
  | bad =>
    rw [e] at q'
    exact q'
theorem k_nil : PK X [] (tDA Γ W (evs C .nil)) := ⟨fun pos pins s σ H Q I q => pk_nil.run pos pins s σ H Q I (by
  obtain ⟨am, ρ, S, r, re, q⟩ := q
  unfold evs M.ret at q
  exact q am H (.refl _ _) r _ RDs.nil)⟩
theorem k_cons {nm : Option Str} {kp : Pos} (ha : Snd Γ C X W a x) (h : PK X kws (tDA Γ W (evs C es))) : PK X (⟨nm, x, kp⟩ :: kws) (tDA Γ W (evs C (.cons a es))) := ⟨fun pos pins s σ H Q I q => (pk_cons ha.pe h).run pos pins s σ H Q I (by
  obtain ⟨am, ρ, S, r, re, q⟩ := q
  unfold evs at q
  refine tD.bind (f := fun ρ d => (evs C es ρ).bind fun ds => M.ret (d :: ds)) r re q fun d S1 am1 H1 v r1 re1 e1 hv q1 => ?_
  exact tDA.bind (f := fun _ ds => M.ret (d :: ds)) r1 re1 q1 fun ds S2 am2 H2 vs r2 re2 e2 hvs q2 => q2 am2 H2 (.refl _ _) r2 _ (RDs.cons (hv.ext e2) hvs))⟩
theorem kw_names {env : PySem.Env} {pos : Pos} : ∀ kws : List Keyword, (backToKw pos (keywordEach kws env)).map (·.1) = kws.map (·.arg)
  | [] => rfl
  | ⟨n, v, kp⟩ :: r => by
    show n :: (backToKw pos (keywordEach r env)).map (·.1) = n :: r.map (·.arg)
    rw [kw_names r]
theorem kw_facts {env : PySem.Env} {pos : Pos} {ns : List Str} (h : kws.map (·.arg) = ns.map some) :
    (backToKw pos (keywordEach kws env)).all (·.1.isSome) = true ∧ (backToKw pos (keywordEach kws env)).filterMap (·.1) = ns ∧ (backToKw pos (keywordEach kws env)).any (·.1.isNone) = false := by
  have e := kw_names (env := env) (pos := pos) kws
  rw [h] at e
  generalize backToKw pos (keywordEach kws env) = L at e
  clear h
  induction L generalizing ns with
  | nil =>
    cases ns with
    | nil => exact ⟨rfl, rfl, rfl⟩
    | cons n ns => cases e
  | cons q L ih =>
    cases ns with
    | nil => cases e
    | cons n ns =>
      have e1 : q.1 = some n := (List.cons.inj e).1
      obtain ⟨h1, h2, h3⟩ := ih (List.cons.inj e).2
      refine ⟨?_, ?_, ?_⟩
      · rw [List.all_cons, h1, e1]; rfl
      · rw [List.filterMap_cons, e1, h2]
      · rw [List.any_cons, h3, e1]; rfl
theorem s_call (G : Good t Γ C N sc X) (tk : Takes X W) {f : Nat} {ks : List Nat} {nx : Str} {p1 : Pos} (hg : glB sc nx = true) (hf : t.gfn nx = some f) (hx : okN nx = true) (ha : PA X l (tDA Γ W (evs C es))) (hk : PK X kws (tDA Γ W (evs C kes)))
    (hl : es.len = l.length) (hstar : l.all noStar = true) (hsh : t.shp f l.length ks = true) (hkn : kws.map (·.arg) = (t.kn f ks).map some) (hkl : kes.len = ks.length) : Snd Γ C X W (.call f es kes ks) (.Call (.Name nx p1) l kws p) := by
  refine Snd.of G.hK ⟨fun pins s σ H Q I q => ?_⟩ rfl
  obtain ⟨h1, h2⟩ := G.fnm nx f hf
  obtain ⟨k1, k2, k3⟩ := kw_facts (env := X.env) (pos := p) hkn
  refine wpAny_Call_Name_kw (ld_glob I (gl_of G hg) h1 ?_ (okN_d hx).1)
  obtain ⟨am, ρ, S, r, re, q⟩ := q
  unfold ev at q
  have fin : ∀ {s2 : Shared} {H2 : Hp} {us ws : List Value} {vs zs : List V} {am2 : List Addr} {S2 : Sto} {ds ds2 : List D}, Inv X pins σ H2 s2 → Vals vs us → Vals zs ws → Rel Γ am2 S2 H2 → RDs Γ am2 H2 ds vs → RDs Γ am2 H2 ds2 zs → ds.length = l.length → ds2.length = ks.length →
      Out Γ am2 H2 (wo W σ) (KV Γ Q) (C f ks (ds ++ ds2) S2) → wpAny (model X.prog X.w) X.A (call (.ref (Γ.fa f)) us ((t.kn f ks).zip ws)) (EP X pins σ Q) X.xe s2 :=
    fun {s2 H2 us ws vs zs am2 S2 ds ds2} I2 r1 r2 rel hd hd2 e1 e2 q2 => G.calls X rfl rfl rfl rfl rfl rfl W tk pins s2 σ H2 us ws vs zs Q f ks I2 r1 r2
      (by rw [← r1.length, hd.length, e1]; exact hsh) (by rw [← r2.length, hd2.length, e2]) ⟨Γ.hid, am2, S2, ds, ds2, rel, hd, hd2, q2⟩
  cases l with
  | nil =>
    refine PySem.W.callWith_KW0 (h₀ := X.base) I.ok.mod.kin h2 k1 ?_ (by rw [k3]; rfl)
    have q0 : tDA Γ W (evs C es) σ H (fun vs H1 => vs = [] ∧ tDA Γ W (evs C kes) σ H1 (fun zs H2 => ∃ (am2 : List Addr) (S2 : Sto) (ds ds2 : List D), Rel Γ am2 S2 H2 ∧ RDs Γ am2 H2 ds vs ∧ RDs Γ am2 H2 ds2 zs ∧ ds.length = 0 ∧ ds2.length = ks.length ∧ Out Γ am2 H2 (wo W σ) (KV Γ Q) (C f ks (ds ++ ds2) S2))) := by
      refine tDA.bindE (f := fun ρ ds => (evs C kes ρ).bind fun zs => C f ks (ds ++ zs)) r re q fun ds S1 am1 H1 vs e0 r1 re1 e1 hv q1 => ?_
      have hl0 : ds.length = 0 := by rw [evs_len e0, hl]; rfl
      refine ⟨List.eq_nil_of_length_eq_zero (by rw [hv.length, hl0]), ?_⟩
      exact tDA.bindE (f := fun _ zs => C f ks (ds ++ zs)) r1 re1 q1 fun ds2 S2 am2 H2 zs e3 r2 re2 e2 hz q2 => ⟨am2, S2, ds, ds2, r2, hv.ext e2, hz, hl0, by rw [evs_len e3, hkl], q2⟩
    -- the positional list is empty: nothing is run for it
    have q1 := q0
    obtain ⟨am0, ρ0, S0, r0, re0, q0⟩ := q0
    have he : es = .nil := by
      cases es with
      | nil => rfl
      | cons e es => simp [Es.len] at hl
    subst he
    unfold evs M.ret at q0
    obtain ⟨_, q3⟩ := q0 am0 H (.refl _ _) r0 [] RDs.nil
    refine thn (hk.run p pins s σ H _ I q3) fun ws s2 ⟨zs, H2, I2, rz, am2, S2, ds, ds2, rel, hd, hd2, l1, l2, q4⟩ => ⟨I2.kIn, ?_⟩
    rw [k2]
    exact fin (us := []) I2 .nil rz rel hd hd2 l1 l2 q4
  | cons x l =>
    rw [List.all_cons, Bool.and_eq_true] at hstar
    have hs : starEach (x :: l) X.env = (false, eval x X.env) :: starEach l X.env := star_cons l hstar.1
    refine PySem.W.callWith_KW (h₀ := X.base) I.ok.mod.kin h2 k1 ?_ (by rw [k3, hs]; show ((false || (backTo p (starEach l X.env)).any (·.1)) || false) = false; rw [star_any hstar.2]; rfl) hs
    have q0 : tDA Γ W (evs C es) σ H (fun vs H1 => tDA Γ W (evs C kes) σ H1 (fun zs H2 => ∃ (am2 : List Addr) (S2 : Sto) (ds ds2 : List D), Rel Γ am2 S2 H2 ∧ RDs Γ am2 H2 ds vs ∧ RDs Γ am2 H2 ds2 zs ∧ ds.length = (x :: l).length ∧ ds2.length = ks.length ∧ Out Γ am2 H2 (wo W σ) (KV Γ Q) (C f ks (ds ++ ds2) S2))) := by
      refine tDA.bindE (f := fun ρ ds => (evs C kes ρ).bind fun zs => C f ks (ds ++ zs)) r re q fun ds S1 am1 H1 vs e0 r1 re1 e1 hv q1 => ?_
      exact tDA.bindE (f := fun _ zs => C f ks (ds ++ zs)) r1 re1 q1 fun ds2 S2 am2 H2 zs e3 r2 re2 e2 hz q2 => ⟨am2, S2, ds, ds2, r2, hv.ext e2, hz, by rw [evs_len e0, hl], by rw [evs_len e3, hkl], q2⟩
    refine thn (ha.run p pins s σ H _ I q0) fun us s1 ⟨vs, H1, I1, r1, q1⟩ => ?_
    refine thn (hk.run p pins s1 σ H1 _ I1 q1) fun ws s2 ⟨zs, H2, I2, rz, am2, S2, ds, ds2, rel, hd, hd2, l1, l2, q4⟩ => ⟨I2.kIn, ?_⟩
    rw [k2]
    exact fin I2 r1 rz rel hd hd2 l1 l2 q4
/-! built-ins -/
def BI.nm : BI → Str
  | .abs => "abs" | .len => "len" | .int => "int" | .max => "max" | .min => "min" | .sum => "sum" | .all => "all" | .any => "any" | .tuple => "tuple" | .list => "list"
  | .sorted => "sorted" | .str => "str" | .isi _ => "isinstance"
def Ty.sn : Ty → Str
  | .int => "int" | .bool => "bool" | .str => "str" | .tup => "tuple" | .lst => "list"
theorem boot_bi (b : BI) : bootBuiltins b.nm = some b.val := by
  cases b with
  | isi t => show bootBuiltins "isinstance" = some (.builtin "isinstance"); decide +kernel
  | _ => show bootBuiltins _ = some _; decide +kernel
theorem boot_ty (t : Ty) : bootBuiltins t.sn = some (.type t.nm) := by cases t <;> (show bootBuiltins _ = some _; decide +kernel)
theorem bi_call {id : String} {r : List V → Hp → VK → Prop} {tA : TA} {nx : Str} {p1 : Pos} (v : Value) (hv0 : (∃ id, v = .builtin id) ∨ ∃ T, v = .type T) (hc : CallR X v r) (hg : Gl X nx) (hm : X.mg nx = none) (hv : bootBuiltins nx = some v) (ha : PA X (x :: l) tA) (hn : nx ≠ "__name__") (hdb : (nx == ("__debug__" : Str)) = false)
    (he : starEach (x :: l) X.env = (false, eval x X.env) :: starEach l X.env) (hpl : (backTo p (starEach l X.env)).any (·.1) = false) : PE X (.Call (.Name nx p1) (x :: l) [] p) (tCB r tA) := by
  rcases hv0 with ⟨id, rfl⟩ | ⟨T, rfl⟩
  · exact pe_callB hc hg hm hv ha hn hdb he hpl
  · exact pe_callTy hc hg hm hv ha hn hdb he hpl
theorem s_bi (G : Good t Γ C N sc X) {bi : BI} {nx : Str} {p1 : Pos} (hb : bi.isI = false) (hnm : nx = bi.nm) (hg : glB sc nx = true) (hm : t.fre nx = true) (hx : okN nx = true) (ha : PA X (x :: l) (tDA Γ W (evs C es))) (hs : (x :: l).all noStar = true) :
    Snd Γ C X W (.bi bi es) (.Call (.Name nx p1) (x :: l) [] p) := by
  rw [List.all_cons, Bool.and_eq_true] at hs
  obtain ⟨h1, _, h3⟩ := okN_d hx
  refine Snd.of G.hK (PEi (bi_call (id := "") bi.val (by cases bi <;> first | exact .inl ⟨_, rfl⟩ | exact .inr ⟨_, rfl⟩) (bi_ok (X := X) (Γ := Γ) G.hK G.calm bi hb) (gl_of G hg) (G.fre nx hm) (by rw [hnm]; exact boot_bi bi) ha h3 h1 (star_cons l hs.1) (star_any hs.2)) fun σ H Q q => ?_) rfl
  obtain ⟨am, ρ, S, r, re, q⟩ := q
  unfold ev at q
  exact tDA.bind (f := fun _ ds => biop bi ds) r re q fun ds S1 am1 H1 vs r1 re1 e1 hv q1 => ⟨wo W σ, am1, S1, ds, r1, hv, q1⟩
theorem s_isi (G : Good t Γ C N sc X) {ty : Ty} {nx ny : Str} {p1 p2 : Pos} (hnm : nx = "isinstance") (hny : ny = ty.sn) (hg : glB sc nx = true) (hg2 : glB sc ny = true) (hm : t.fre nx = true) (hm2 : t.fre ny = true) (hx : okN nx = true) (hx2 : okN ny = true) (ha : Snd Γ C X W a x) (hs : noStar x = true) :
    Snd Γ C X W (.bi (.isi ty) (.cons a .nil)) (.Call (.Name nx p1) [x, .Name ny p2] [] p) := by
  obtain ⟨h1, _, h3⟩ := okN_d hx
  obtain ⟨k1, _, k3⟩ := okN_d hx2
  have hty : PE X (.Name ny p2) (tC (.ty ty.nm)) := pe_bltn (u := .type ty.nm) (gl_of G hg2) (G.fre ny hm2) (by rw [hny]; exact boot_ty ty) rfl k3 k1
  refine Snd.of G.hK (PEi (pe_callB call_isi (gl_of G hg) (G.fre nx hm) (by rw [hnm]; exact boot_bi (.isi ty)) (pa_cons ha.pe (pa_cons hty pa_nil rfl) (star_cons _ hs)) h3 h1 (star_cons _ hs) rfl) fun σ H Q q => ?_) rfl
  obtain ⟨am, ρ, S, r, re, q⟩ := q
  have q' : Out Γ am H (wo W σ) (KV Γ Q) (((ev C a ρ).bind fun d => biop (.isi ty) [d]) S) := by
    unfold ev evs evs M.bind M.ret at q
    unfold M.bind
    cases e : ev C a ρ S with
    | ok d S1 => rw [e] at q; exact q
    | exc c fs S1 => rw [e] at q; exact q
    | bad => rw [e] at q; exact q
  refine tD.bind (f := fun _ d => biop (.isi ty) [d]) r re q' fun d S1 am1 H1 v r1 re1 e1 hv q1 => ?_
  have q1 : Out Γ am1 H1 (wo W σ) (KV Γ Q) (M.opt ((tyIs ty (deref S1 d)).map D.bl) S1) := q1
  unfold M.opt at q1
  cases e : tyIs ty (deref S1 d) with
  | none => rw [e] at q1; exact q1.elim
  | some k =>
    rw [e] at q1
    obtain ⟨tn, h4, h5⟩ := isi_ok (X := X) G.hK ty r1 hv e
    exact ⟨v, .ty ty.nm, .type tn, .type ty.nm, k, rfl, .ty _, h4, h5, out_bl r1 q1⟩
/-! methods -/
theorem ty_list {am : List Addr} {H : Hp} {S : Sto} {k : Nat} {v : V} {xs : List D} (r : Rel Γ am S H) (h : RD Γ am H (.ref k) v) (e : S[k]? = some (.lst xs)) : tyV X.K "list" v H := by
  obtain ⟨a, vs, rfl, ha, h1, h2⟩ := ref_lst r h e
  exact .inl ⟨rfl, vs, .of h1⟩
end
end PI

/-! methods, what is walked -/
namespace PI
open PySem PySem.Spec PyProof.Rows L2
section
variable {t : Tb} {Γ : Gm} {C : Cal} {N : List Str} {sc : Scope} {X : Cx} {W : WX} {a b c : E} {x y z : Expr} {p : Pos} {es kes : Es} {l : List Expr} {kws : List Keyword}
theorem meck_split {am : List Addr} {H : Hp} {S : Sto} {m : ME} {d : D} {α : Type} {f : Unit → M α} {Q : α → Sto → List Addr → Hp → Prop} {W' : WO} (q : Out Γ am H W' Q (((meck m d).bind f) S)) :
    meck m d S = .ok () S ∧ Out Γ am H W' Q (f () S) := by
  unfold M.bind at q
  have : meck m d S = .ok () S ∨ meck m d S = .bad := by
    unfold meck
    repeat' split
    all_goals first | exact .inl rfl | exact .inr rfl
  rcases this with h | h
  · rw [h] at q
    exact ⟨h, q⟩
  · rw [h] at q
    exact q.elim
theorem meck_list {am : List Addr} {H : Hp} {S : Sto} {m : ME} {d : D} {v : V} (hm : m = .append ∨ m = .pop) (r : Rel Γ am S H) (h : RD Γ am H d v) (e : meck m d S = .ok () S) : tyV X.K "list" v H := by
  have : ∃ k xs, d = .ref k ∧ S[k]? = some (.lst xs) := by
    unfold meck at e
    split at e
    · split at e
      · exact ⟨_, _, rfl, by assumption⟩
      · cases e
    · split at e
      · exact ⟨_, _, rfl, by assumption⟩
      · cases e
    · rcases hm with h | h <;> cases h
    · rcases hm with h | h <;> cases h
    · cases e
  obtain ⟨k, xs, rfl, e'⟩ := this
  exact ty_list r h e'
theorem evs_one {e : E} {ρ : Env} {S : Sto} {α : Type} {f : List D → M α} : ((evs C (.cons e .nil) ρ).bind f) S = ((ev C e ρ).bind fun d => f [d]) S := by
  unfold evs evs M.bind M.ret
  cases ev C e ρ S <;> rfl
theorem evs_nil {ρ : Env} {S : Sto} {α : Type} {f : List D → M α} : ((evs C .nil ρ).bind f) S = f [] S := by
  unfold evs M.bind M.ret
  rfl
theorem few_one {env : PySem.Env} {pos : Pos} (hs : noStar y = true) : ((backTo pos (starEach [y] env)).all (fun x => !x.1) && (backToKw pos (keywordEach [] env)).all (fun x => x.1.isSome)
      && decide (([y] : List Expr).length + ([] : List Keyword).length + (if ([] : List Keyword).isEmpty then 0 else 1) < 30)) = true := by
  rw [star_cons [] hs]
  rfl
theorem s_append (G : Good t Γ C N sc X) {apos : Pos} (ho : Snd Γ C X W a x) (ha : Snd Γ C X W b y) (hb : okAttr x = true) (hline : (apos.endLine == p.line) = true) (hs : noStar y = true) :
    Snd Γ C X W (.me .append a (.cons b .nil)) (.Call (.Attribute x "append" apos) [y] [] p) := by
  refine Snd.of G.hK (PEi (pe_bm PySem.F.plainAttrs_list PySem.F.slot_list_append PySem.F.type_list_append (append_ok (X := X) (Γ := Γ)) ho.pe (pa_cons ha.pe pa_nil (star_cons [] hs)) (attr_base hb) (few_one hs) hline (star_cons [] hs) rfl) fun σ H Q q => ?_) rfl
  obtain ⟨am, ρ, S, r, re, q⟩ := q
  unfold ev at q
  refine tD.bind (f := fun ρ d => (meck .append d).bind fun _ => (evs C (.cons b .nil) ρ).bind fun ds => meop .append d ds) r re q fun d S1 am1 H1 v r1 re1 e1 hv q1 => ?_
  obtain ⟨h1, q2⟩ := meck_split q1
  refine ⟨meck_list (.inl rfl) r1 hv h1, ?_⟩
  rw [evs_one] at q2
  exact tD.bind (f := fun _ e => meop .append d [e]) r1 re1 q2 fun e S2 am2 H2 u r2 re2 e2 hu q3 => ⟨wo W σ, am2, S2, d, [e], r2, hv.ext e2, .cons hu .nil, q3⟩
theorem s_pop (G : Good t Γ C N sc X) {apos : Pos} (ho : Snd Γ C X W a x) (hb : okAttr x = true) (hline : (apos.endLine == p.line) = true) :
    Snd Γ C X W (.me .pop a .nil) (.Call (.Attribute x "pop" apos) [] [] p) := by
  refine Snd.of G.hK (PEi (pe_bm0 PySem.F.plainAttrs_list PySem.F.slot_list_pop PySem.F.type_list_pop (pop_ok (X := X) (Γ := Γ)) ho.pe (attr_base hb) hline) fun σ H Q q => ?_) rfl
  obtain ⟨am, ρ, S, r, re, q⟩ := q
  unfold ev at q
  refine tD.bind (f := fun ρ d => (meck .pop d).bind fun _ => (evs C .nil ρ).bind fun ds => meop .pop d ds) r re q fun d S1 am1 H1 v r1 re1 e1 hv q1 => ?_
  obtain ⟨h1, q2⟩ := meck_split q1
  rw [evs_nil] at q2
  exact ⟨meck_list (.inr rfl) r1 hv h1, wo W σ, am1, S1, d, [], r1, hv, .nil, q2⟩
theorem s_bits (G : Good t Γ C N sc X) {apos : Pos} (ho : Snd Γ C X W a x) (hb : okAttr x = true) (hline : (apos.endLine == p.line) = true) :
    Snd Γ C X W (.me .bitLen a .nil) (.Call (.Attribute x "bit_length" apos) [] [] p) := by
  refine Snd.of G.hK (PEi (pe_bits ho.pe (attr_base hb) hline) fun σ H Q q => ?_) rfl
  obtain ⟨am, ρ, S, r, re, q⟩ := q
  unfold ev at q
  refine tD.bind (f := fun ρ d => (meck .bitLen d).bind fun _ => (evs C .nil ρ).bind fun ds => meop .bitLen d ds) r re q fun d S1 am1 H1 v r1 re1 e1 hv q1 => ?_
  obtain ⟨h1, q2⟩ := meck_split q1
  rw [evs_nil] at q2
  cases d with
  | int i => exact ⟨i, hv.intv, out_int r1 q2⟩
  | _ => exact (nomatch h1)
/-! what is walked -/
theorem TpT_same {am am' : List Addr} {H H' : Hp} {a : Addr} {vs : List V} (h : TpT Γ.K H a vs) (e : Ext am H am' H') : SqT Γ.K H' a vs := (h.ext e).sq
theorem ok_tup {am : List Addr} {H : Hp} {a : Addr} {vs : List V} {xs : List D} (hK : Γ.K = X.K) (h : TpT Γ.K H a vs) (hr : RDs Γ am H xs vs) : ItOk Γ am H (Itt X.K a) xs := fun l am' S H' t e r => by
  have hq : SqT X.K H' a vs := by rw [← hK]; exact (h.ext e).sq
  have hr' := (hr.tr t).ext e
  refine ⟨fun i d hi => ?_, vs, hq, Nat.le_of_eq hr.length⟩
  obtain ⟨v, h1, h2⟩ := hr'.get hi
  refine ⟨⟨vs, v, hq, h1⟩, fun x H2 hy => ?_⟩
  obtain ⟨rfl, hy⟩ := hy
  have := hy vs hq
  rw [h1] at this
  cases this
  exact ⟨.refl _ _, r, h2⟩
theorem ok_lst {am : List Addr} {H : Hp} {a : Addr} {vs : List V} {xs : List D} (h : H a = some (.lst vs)) (hn : a ∉ am) (hr : RDs Γ am H xs vs) : ItOk Γ am H (Itl X.K a) xs := fun l am' S H' t e r => by
  have hq : SqL X.K H' a vs := .of (e.kep a _ h hn)
  have hr' := (hr.tr t).ext e
  refine ⟨fun i d hi => ?_, vs, hq, Nat.le_of_eq hr.length⟩
  obtain ⟨v, h1, h2⟩ := hr'.get hi
  refine ⟨⟨vs, v, hq, h1⟩, fun x H2 hy => ?_⟩
  obtain ⟨rfl, hy⟩ := hy
  have := hy vs hq
  rw [h1] at this
  cases this
  exact ⟨.refl _ _, r, h2⟩
/-- a value with items: a tuple, or a frozen list -/
theorem items_sq {am : List Addr} {H : Hp} {d : D} {v : V} {xs : List D} (hK : Γ.K = X.K) (h : RD Γ am H d v) (e : items d = some xs) : ∃ k a vs, v = .ref a ∧ RDs Γ am H xs vs ∧ (∀ am' H', Ext am H am' H' → Sq X.K H' k a vs) ∧ ItOk Γ am H (Its2 X.K k a) xs := by
  cases d with
  | tup ys =>
    cases e
    obtain ⟨a, vs, rfl, h1, h2⟩ := h.tupv
    exact ⟨.t, a, vs, rfl, h2, fun am' H' e => by show SqT X.K H' a vs; rw [← hK]; exact (h1.ext e).sq, ok_tup hK h1 h2⟩
  | lst ys =>
    cases e
    unfold RD at h
    obtain ⟨a, vs, rfl, h1, hn, h2⟩ := h
    exact ⟨.l, a, vs, rfl, h2, fun am' H' e => .of (e.kep a _ h1 hn.1), ok_lst h1 hn.1 h2⟩
  | _ => cases e
theorem opt_out {am : List Addr} {H : Hp} {S : Sto} {W' : WO} {α β : Type} {o : Option α} {f : α → M β} {Q : β → Sto → List Addr → Hp → Prop} (q : Out Γ am H W' Q (((M.opt o).bind f) S)) : ∃ a, o = some a ∧ Out Γ am H W' Q (f a S) := by
  unfold M.bind M.opt at q
  cases o with
  | none => exact q.elim
  | some a => exact ⟨a, rfl, q⟩
theorem opt_out0 {am : List Addr} {H : Hp} {S : Sto} {W' : WO} {α : Type} {o : Option α} {Q : α → Sto → List Addr → Hp → Prop} (q : Out Γ am H W' Q (M.opt o S)) : ∃ a, o = some a ∧ Out Γ am H W' Q (.ok a S) := by
  unfold M.opt at q
  cases o with
  | none => exact q.elim
  | some a => exact ⟨a, rfl, q⟩
theorem i_ex {tg : Expr} (G : Good t Γ C N sc X) (ha : Snd Γ C X W a x) : PI X tg x (tDI Γ W (evI C (.ex a))) := PIi (pi_seq ha.pe) fun σ H R q => by
  obtain ⟨am, ρ, S, r, re, q⟩ := q
  unfold evI at q
  refine tD.bind (f := fun _ d => .opt (items d)) r re q fun d S1 am1 H1 v r1 re1 e1 hv q1 => ?_
  obtain ⟨xs, h1, q2⟩ := opt_out0 q1
  obtain ⟨k, b, vs, rfl, h2, h3, h4⟩ := items_sq G.hK hv h1
  exact ⟨k, b, vs, rfl, h3 _ _ (.refl _ _), q2 am1 H1 (.refl _ _) r1 _ h4⟩
theorem rngL_get {lo : Int} {n i : Nat} {d : D} (h : (rngL lo n)[i]? = some d) : i < n ∧ d = .int (lo + i) := by
  unfold rngL at h
  rw [List.getElem?_map] at h
  cases e : (List.range n)[i]? with
  | none => rw [e] at h; cases h
  | some j =>
    rw [e] at h
    obtain ⟨h1, h2⟩ := List.getElem?_eq_some_iff.mp e
    rw [List.getElem_range] at h2
    rw [List.length_range] at h1
    subst h2
    exact ⟨h1, (Option.some.inj h).symm⟩
theorem ok_rng {am : List Addr} {H : Hp} {lo : Int} {n : Nat} : ItOk Γ am H (Itr lo n) (rngL lo n) := fun l am' S H' t e r => by
  refine ⟨fun i d hi => ?_, by show n ≤ (rngL lo n).length; unfold rngL; rw [List.length_map, List.length_range]; exact Nat.le_refl _⟩
  obtain ⟨h1, rfl⟩ := rngL_get hi
  refine ⟨h1, fun x H2 hy => ?_⟩
  obtain ⟨rfl, rfl⟩ := hy
  exact ⟨.refl _ _, r, by unfold RD; rfl⟩
theorem i_rng1 {tg : Expr} (G : Good t Γ C N sc X) {nx : Str} {p1 : Pos} (hnm : nx = "range") (hg : glB sc nx = true) (hm : t.fre nx = true) (ha : Snd Γ C X W a x) (hs : noStar x = true) :
    PI X tg (.Call (.Name nx p1) [x] [] p) (tDI Γ W (evI C (.rng (.cons a .nil)))) := by
  subst hnm
  refine PIi (pi_range1 (gl_of G hg) (G.fre _ hm) (pa_cons ha.pe pa_nil (star_cons [] hs)) (star_cons [] hs)) fun σ H R q => ?_
  obtain ⟨am, ρ, S, r, re, q⟩ := q
  unfold evI at q
  rw [evs_one] at q
  refine tD.bind (f := fun _ d => .opt (rng [d])) r re q fun d S1 am1 H1 v r1 re1 e1 hv q1 => ?_
  obtain ⟨xs, h1, q2⟩ := opt_out0 q1
  unfold rng at h1
  split at h1
  · rename_i j e
    cases e
    split at h1
    · rename_i h2
      cases h1
      exact ⟨j, by rw [hv.intv], h2.1, h2.2, q2 am1 H1 (.refl _ _) r1 _ ok_rng⟩
    · cases h1
  · rename_i e; cases e
  · cases h1
theorem evs_two {e e2 : E} {ρ : Env} {S : Sto} {α : Type} {f : List D → M α} : ((evs C (.cons e (.cons e2 .nil)) ρ).bind f) S = ((ev C e ρ).bind fun d => (ev C e2 ρ).bind fun d2 => f [d, d2]) S := by
  unfold evs evs evs M.bind M.ret
  cases ev C e ρ S with
  | ok d S1 =>
    dsimp only
    cases ev C e2 ρ S1 <;> rfl
  | exc c fs S1 => rfl
  | bad => rfl
theorem i_rng2 {tg : Expr} (G : Good t Γ C N sc X) {nx : Str} {p1 : Pos} (hnm : nx = "range") (hg : glB sc nx = true) (hm : t.fre nx = true) (ha : Snd Γ C X W a x) (hb : Snd Γ C X W b y) (hs : noStar x = true) (hs2 : noStar y = true) :
    PI X tg (.Call (.Name nx p1) [x, y] [] p) (tDI Γ W (evI C (.rng (.cons a (.cons b .nil))))) := by
  subst hnm
  have st2 : starEach [y] X.env = [(false, eval y X.env)] := star_cons [] hs2
  have st1 : starEach [x, y] X.env = [(false, eval x X.env), (false, eval y X.env)] := by rw [star_cons [y] hs, st2]
  refine PIi (pi_range2 (gl_of G hg) (G.fre _ hm) (pa_cons ha.pe (pa_cons hb.pe pa_nil st2) (star_cons [y] hs)) st1 st2) fun σ H R q => ?_
  obtain ⟨am, ρ, S, r, re, q⟩ := q
  unfold evI at q
  rw [evs_two] at q
  refine tD.bind (f := fun ρ d => (ev C b ρ).bind fun d2 => .opt (rng [d, d2])) r re q fun d S1 am1 H1 v r1 re1 e1 hv q1 => ?_
  refine tD.bind (f := fun _ d2 => .opt (rng [d, d2])) r1 re1 q1 fun d2 S2 am2 H2 u r2 re2 e2 hu q2 => ?_
  obtain ⟨xs, h1, q3⟩ := opt_out0 q2
  unfold rng at h1
  split at h1
  · rename_i e; cases e
  · rename_i i j e
    cases e
    split at h1
    · rename_i h2
      cases h1
      have hv' := hv.intv
      have hu' := hu.intv
      subst hv' hu'
      exact ⟨i, j, rfl, h2, q3 am2 H2 (.refl _ _) r2 _ ok_rng⟩
    · cases h1
  · cases h1
theorem enumL_get : ∀ {xs : List D} {n i : Nat} {d : D}, (enumL n xs)[i]? = some d → ∃ e, xs[i]? = some e ∧ d = .tup [.int ((n + i : Nat) : Int), e]
  | [], n, i, d, h => by simp [enumL] at h
  | x :: xs, n, 0, d, h => by
    simp [enumL] at h
    exact ⟨x, rfl, h.symm⟩
  | x :: xs, n, i + 1, d, h => by
    simp only [enumL, List.getElem?_cons_succ] at h
    obtain ⟨e, h1, h2⟩ := enumL_get h
    exact ⟨e, by simpa using h1, by rw [h2]; congr 4; omega⟩
theorem enumL_len : ∀ (xs : List D) (n : Nat), (enumL n xs).length = xs.length
  | [], n => rfl
  | x :: xs, n => by
    show (enumL (n + 1) xs).length + 1 = xs.length + 1
    rw [enumL_len xs]
theorem new_pair {am : List Addr} {S : Sto} {H : Hp} {T : Addr} {d e : D} {v u : V} (r : Rel Γ am S H) (hn : H T = none) (hd : RD Γ am H d v) (he : RD Γ am H e u) : Ext am H am (upd H T (.tup [v, u])) ∧ Rel Γ am S (upd H T (.tup [v, u])) ∧ RD Γ am (upd H T (.tup [v, u])) (.tup [d, e]) (.ref T) := by
  refine ⟨Ext.new hn, r.new hn, ?_⟩
  unfold RD
  exact ⟨T, [v, u], rfl, .inl upd_same, ((RDs.cons hd (RDs.cons he RDs.nil))).ext (Ext.new hn)⟩
theorem i_enm {els : List Expr} {kk : Nat} {tpos : Pos} (G : Good t Γ C N sc X) {nx : Str} {p1 : Pos} (hnm : nx = "enumerate") (hg : glB sc nx = true) (hm : t.fre nx = true) (ha : Snd Γ C X W a x) (hs : noStar x = true) :
    PI X (.Tuple els kk tpos) (.Call (.Name nx p1) [x] [] p) (tDI Γ W (evI C (.enm a))) := by
  subst hnm
  refine PIi (pi_enumS (gl_of G hg) (G.fre _ hm) (pa_cons ha.pe pa_nil (star_cons [] hs)) (star_cons [] hs)) fun σ H R q => ?_
  obtain ⟨am, ρ, S, r, re, q⟩ := q
  unfold evI at q
  refine tD.bind (f := fun _ d => (M.opt (items d)).bind fun xs => .ret (enumL 0 xs)) r re q fun d S1 am1 H1 v r1 re1 e1 hv q1 => ?_
  obtain ⟨xs, h1, q2⟩ := opt_out q1
  obtain ⟨k, b, vs, rfl, h2, h3, h4⟩ := items_sq G.hK hv h1
  refine ⟨k, b, vs, rfl, h3 _ _ (.refl _ _), q2 am1 H1 (.refl _ _) r1 _ ?_⟩
  intro l am' S' H' t e r'
  have hq := h3 am' H' e
  refine ⟨fun i d hi => ?_, vs, hq, by rw [enumL_len]; exact h2.length⟩
  obtain ⟨f, g1, rfl⟩ := enumL_get hi
  obtain ⟨z, g2, g3⟩ := ((h2.tr t).ext e).get g1
  refine ⟨⟨vs, z, hq, g2⟩, fun w H'' hy => ?_⟩
  obtain ⟨T, w', rfl, hT, rfl, hy⟩ := hy
  have := hy vs hq
  rw [g2] at this
  cases this
  rw [Nat.zero_add]
  exact new_pair r' hT (by unfold RD; rfl) g3
theorem zipL_get : ∀ {xs ys : List D} {i : Nat} {d : D}, (zipL xs ys)[i]? = some d → ∃ e f, xs[i]? = some e ∧ ys[i]? = some f ∧ d = .tup [e, f]
  | [], _, i, d, h => by simp [zipL] at h
  | x :: xs, [], i, d, h => by simp [zipL] at h
  | x :: xs, y :: ys, 0, d, h => by
    simp [zipL] at h
    exact ⟨x, y, rfl, rfl, h.symm⟩
  | x :: xs, y :: ys, i + 1, d, h => by
    simp only [zipL, List.getElem?_cons_succ] at h
    obtain ⟨e, f, h1, h2, h3⟩ := zipL_get h
    exact ⟨e, f, by simpa using h1, by simpa using h2, h3⟩
theorem zipL_len : ∀ (xs ys : List D), (zipL xs ys).length = min xs.length ys.length
  | [], _ => by simp [zipL]
  | x :: xs, [] => by simp [zipL]
  | x :: xs, y :: ys => by
    show (zipL xs ys).length + 1 = min (xs.length + 1) (ys.length + 1)
    rw [zipL_len xs ys]
    omega
theorem i_zp {els : List Expr} {kk : Nat} {tpos : Pos} (G : Good t Γ C N sc X) {nx : Str} {p1 : Pos} (hnm : nx = "zip") (hg : glB sc nx = true) (hm : t.fre nx = true) (ha : Snd Γ C X W a x) (hb : Snd Γ C X W b y) (hs : noStar x = true) (hs2 : noStar y = true) :
    PI X (.Tuple els kk tpos) (.Call (.Name nx p1) [x, y] [] p) (tDI Γ W (evI C (.zp a b))) := by
  subst hnm
  have st2 : starEach [y] X.env = [(false, eval y X.env)] := star_cons [] hs2
  refine PIi (pi_zipS (gl_of G hg) (G.fre _ hm) (pa_cons ha.pe (pa_cons hb.pe pa_nil st2) (star_cons [y] hs)) (star_cons [y] hs) (by rw [st2]; rfl)) fun σ H R q => ?_
  obtain ⟨am, ρ, S, r, re, q⟩ := q
  unfold evI at q
  refine tD.bind (f := fun ρ d => (ev C b ρ).bind fun d2 => (M.opt (items d)).bind fun xs => (M.opt (items d2)).bind fun ys => .ret (zipL xs ys)) r re q fun d S1 am1 H1 v r1 re1 e1 hv q1 => ?_
  refine tD.bind (f := fun _ d2 => (M.opt (items d)).bind fun xs => (M.opt (items d2)).bind fun ys => .ret (zipL xs ys)) r1 re1 q1 fun d2 S2 am2 H2 u r2 re2 e2 hu q2 => ?_
  obtain ⟨xs, h1, q3⟩ := opt_out q2
  obtain ⟨ys, h1', q4⟩ := opt_out q3
  obtain ⟨k, c1, vs, rfl, h2, h3, h4⟩ := items_sq G.hK (hv.ext e2) h1
  obtain ⟨k', c2, us, rfl, h2', h3', h4'⟩ := items_sq G.hK hu h1'
  refine ⟨k, k', c1, c2, vs, us, rfl, h3 _ _ (.refl _ _), h3' _ _ (.refl _ _), q4 am2 H2 (.refl _ _) r2 _ ?_⟩
  intro l am' S' H' t e r'
  have hq := h3 am' H' e
  have hq' := h3' am' H' e
  refine ⟨fun i d hi => ?_, vs, us, hq, hq', ?_⟩
  · obtain ⟨f, f', g1, g1', rfl⟩ := zipL_get hi
    obtain ⟨z, g2, g3⟩ := ((h2.tr t).ext e).get g1
    obtain ⟨z', g2', g3'⟩ := ((h2'.tr t).ext e).get g1'
    refine ⟨⟨vs, us, z, z', hq, hq', g2, g2'⟩, fun w H'' hy => ?_⟩
    obtain ⟨T, w1, w2, rfl, hT, rfl, hy, hy'⟩ := hy
    have t1 := hy vs hq
    have t2 := hy' us hq'
    rw [g2] at t1
    rw [g2'] at t2
    cases t1
    cases t2
    exact new_pair r' hT g3 g3'
  · rw [zipL_len, h2.length, h2'.length]
    omega
theorem i_rv {tg : Expr} (G : Good t Γ C N sc X) {nx : Str} {p1 : Pos} (hnm : nx = "reversed") (hg : glB sc nx = true) (hm : t.fre nx = true) (ha : Snd Γ C X W a x) (hs : noStar x = true) :
    PI X tg (.Call (.Name nx p1) [x] [] p) (tDI Γ W (evI C (.rv a))) := by
  subst hnm
  refine PIi (RT.pi_revA (gl_of G hg) (G.fre _ hm) ha.pe (star_cons [] hs)) fun σ H R q => ?_
  obtain ⟨am, ρ, S, r, re, q⟩ := q
  unfold evI at q
  refine tD.bind (f := fun _ d => (M.opt (items d)).bind fun xs => .ret xs.reverse) r re q fun d S1 am1 H1 v r1 re1 e1 hv q1 => ?_
  obtain ⟨xs, h1, q2⟩ := opt_out q1
  obtain ⟨k, b, vs, rfl, h2, h3, h4⟩ := items_sq G.hK hv h1
  have hl := h2.length
  have key : ∀ (l : List Addr) (am' : List Addr) (H' : Hp) (i : Nat) (d : D), Tr Γ am1 H1 l H1 → Ext am1 H1 am' H' → xs.reverse[i]? = some d → i < vs.length ∧ ∃ z, vs[vs.length - 1 - i]? = some z ∧ RD (Γ.h l) am' H' d z := by
    intro l am' H' i d t e hi
    have hi' := (List.getElem?_eq_some_iff.mp hi).1
    rw [List.length_reverse] at hi'
    rw [List.getElem?_reverse hi'] at hi
    obtain ⟨z, g2, g3⟩ := ((h2.tr t).ext e).get hi
    exact ⟨by omega, z, by rw [hl]; exact g2, g3⟩
  refine ⟨b, vs, rfl, ?_⟩
  cases k with
  | l =>
    refine .inl ⟨h3 _ _ (.refl _ _), q2 am1 H1 (.refl _ _) r1 _ ?_⟩
    intro l am' S' H' t e r'
    have hq : SqL X.K H' b vs := h3 am' H' e
    refine ⟨fun i d hi => ?_, by show vs.length ≤ xs.reverse.length; rw [List.length_reverse, hl]; exact Nat.le_refl _⟩
    obtain ⟨g1, z, g2, g3⟩ := key l am' H' i d t e hi
    refine ⟨⟨g1, vs, z, hq, g2⟩, fun w H'' hy => ?_⟩
    obtain ⟨rfl, hy⟩ := hy
    have := hy vs hq
    rw [g2] at this
    cases this
    exact ⟨.refl _ _, r', g3⟩
  | t =>
    refine .inr ⟨h3 _ _ (.refl _ _), q2 am1 H1 (.refl _ _) r1 _ ?_⟩
    intro l am' S' H' t e r'
    have hq : SqT X.K H' b vs := h3 am' H' e
    refine ⟨fun i d hi => ?_, by show vs.length ≤ xs.reverse.length; rw [List.length_reverse, hl]; exact Nat.le_refl _⟩
    obtain ⟨g1, z, g2, g3⟩ := key l am' H' i d t e hi
    refine ⟨⟨g1, vs, z, hq, g2⟩, fun w H'' hy => ?_⟩
    obtain ⟨rfl, hy⟩ := hy
    have := hy vs hq
    rw [g2] at this
    cases this
    exact ⟨.refl _ _, r', g3⟩
end
end PI

/-! targets, comprehensions -/
namespace PI
open PySem PySem.Spec PyProof.Rows L2
section
variable {t : Tb} {Γ : Gm} {C : Cal} {N : List Str} {sc : Scope} {X : Cx} {W : WX}
theorem Good.blk {scope : Scope} (G : Good t Γ C N sc X) (l : List Addr) (s : Shared) (H : Hp) (c : Addr) (cl : List (Str × Addr)) (fp : List Addr) : Good t (Γ.h l) C N (relS scope sc) (X.blk s H scope (compEnvC scope cl c X.env) fp) where
  hN := G.hN
  nd := G.nd
  hsc := by show relS scope X.env.scope = relS scope sc; rw [G.hsc]
  calm := G.calm
  hK := G.hK
  hcl := G.hcl
  hu := G.hu
  fnm := G.fnm
  cs := G.cs
  fre := G.fre
  calls := G.calls
/-! targets -/
def storeB (sc : Scope) (fs : Str → Bool) (x : Str) : Bool := locB sc x && (fs x || sc.names.lookup x == some .local)
theorem store_of {fs : Str → Bool} (G : Good t Γ C N sc X) (hf : ∀ x, fs x = true → X.fn x = true) {x : Str} (h : storeB sc fs x = true) : L2.Loc X.env.scope x ∧ (X.fn x = true ∨ X.env.scope.names.lookup x = some .local) := by
  unfold storeB at h
  rw [Bool.and_eq_true, Bool.or_eq_true] at h
  rw [G.hsc]
  refine ⟨loc_of h.1, h.2.elim (fun h => .inl (hf x h)) fun h => .inr ?_⟩
  cases e : sc.names.lookup x with
  | none => rw [e] at h; cases h
  | some k =>
    rw [e] at h
    cases k <;> first | rfl | cases h
def T.ix : T → List Nat
  | .nm i => [i]
  | .tp is => is
def tgL (N : List Str) (sc : Scope) (fs : Str → Bool) : List Nat → List Expr → Bool
  | [], [] => true
  | i :: is, .Name x _ :: es => decide (N[i]? = some x) && storeB sc fs x && tgL N sc fs is es
  | _, _ => false
def tgB (N : List Str) (sc : Scope) (fs : Str → Bool) : T → Expr → Bool
  | .nm i, .Name x _ => decide (N[i]? = some x) && storeB sc fs x
  | .tp is, .Tuple es _ _ => tgL N sc fs is es
  | _, _ => false
def gL : List Nat → TGs
  | [] => gNil
  | i :: is => gCons (gName i) (gL is)
def gT (X : Cx) : T → TG
  | .nm i => gName i
  | .tp is => gTup X.K is.length (gL is)
theorem tgL_ok {fs : Str → Bool} (G : Good t Γ C N sc X) (hf : ∀ x, fs x = true → X.fn x = true) : ∀ {is : List Nat} {es : List Expr}, tgL N sc fs is es = true → PGs X es (gL is) ∧ (assignEach es X.env).length = is.length ∧ (assignEach es X.env).findIdx? (·.1) = none
  | [], [], _ => ⟨pgs_nil, rfl, rfl⟩
  | i :: is, .Name x p :: es, h => by
    unfold tgL at h
    rw [Bool.and_eq_true, Bool.and_eq_true] at h
    obtain ⟨h1, h2, h3⟩ := tgL_ok G hf h.2
    obtain ⟨k1, k2⟩ := store_of G hf h.1.2
    refine ⟨pgs_cons (pg_name G.nd (by rw [G.hN]; exact of_decide_eq_true h.1.1) k1 k2) h1 rfl, ?_, ?_⟩
    · show (assignEach es X.env).length + 1 = is.length + 1
      rw [h2]
    · show List.findIdx? (·.1) ((false, _) :: assignEach es X.env) = none
      rw [List.findIdx?_cons, h3]
      rfl
  | [], _ :: _, h => by unfold tgL at h; cases h
  | _ :: _, [], h => by unfold tgL at h; cases h
  | i :: is, e :: es, h => by
    cases e with
    | Name x p =>
      unfold tgL at h
      rw [Bool.and_eq_true, Bool.and_eq_true] at h
      obtain ⟨h1, h2, h3⟩ := tgL_ok G hf h.2
      obtain ⟨k1, k2⟩ := store_of G hf h.1.2
      refine ⟨pgs_cons (pg_name G.nd (by rw [G.hN]; exact of_decide_eq_true h.1.1) k1 k2) h1 rfl, ?_, ?_⟩
      · show (assignEach es X.env).length + 1 = is.length + 1
        rw [h2]
      · show List.findIdx? (·.1) ((false, _) :: assignEach es X.env) = none
        rw [List.findIdx?_cons, h3]
        rfl
    | _ => unfold tgL at h; cases h
theorem tgB_ok {fs : Str → Bool} (G : Good t Γ C N sc X) (hf : ∀ x, fs x = true → X.fn x = true) {tg : T} {e : Expr} (h : tgB N sc fs tg e = true) : PG X e (gT X tg) := by
  cases tg with
  | nm i =>
    cases e with
    | Name x p =>
      unfold tgB at h
      rw [Bool.and_eq_true] at h
      obtain ⟨k1, k2⟩ := store_of G hf h.2
      exact pg_name G.nd (by rw [G.hN]; exact of_decide_eq_true h.1) k1 k2
    | _ => unfold tgB at h; cases h
  | tp is =>
    cases e with
    | Tuple es k p =>
      unfold tgB at h
      obtain ⟨h1, h2, h3⟩ := tgL_ok G hf h
      exact pg_tup G.calm h1 h2 h3
    | _ => unfold tgB at h; cases h
theorem gL_run {am : List Addr} {H : Hp} {Q : L2.St → Hp → Prop} : ∀ {is : List Nat} {ds : List D} {vs : List V} {ρ ρ' : Env} {σ : L2.St}, RE Γ am H ρ σ → RDs Γ am H ds vs → asgs is ds ρ = some ρ' →
    (∀ σ', RE Γ am H ρ' σ' → (∀ own : List Nat, (∀ i ∈ is, i ∈ own) → L2.wipe σ' own = L2.wipe σ own) → Q σ' H) → gL is vs σ H Q
  | [], [], vs, ρ, ρ', σ, re, r, e, q => by
    unfold asgs at e
    cases e
    unfold RDs at r
    exact ⟨r, q σ re fun _ _ => rfl⟩
  | [], _ :: _, vs, ρ, ρ', σ, re, r, e, q => by unfold asgs at e; cases e
  | _ :: _, [], vs, ρ, ρ', σ, re, r, e, q => by unfold asgs at e; cases e
  | i :: is, d :: ds, vs, ρ, ρ', σ, re, r, e, q => by
    unfold asgs at e
    unfold RDs at r
    obtain ⟨v, us, rfl, h1, h2⟩ := r
    exact ⟨v, us, rfl, gL_run (re.set h1) h2 e fun σ' re' hw => q σ' re' fun own ho => by
      rw [hw own fun j hj => ho j (List.mem_cons_of_mem _ hj), wipe_set (ho i List.mem_cons_self)]⟩
theorem gT_run {am : List Addr} {H : Hp} {Q : L2.St → Hp → Prop} {tg : T} {d : D} {v : V} {ρ ρ' : Env} {σ : L2.St} (hK : Γ.K = X.K) (re : RE Γ am H ρ σ) (r : RD Γ am H d v) (e : asgT tg d ρ = some ρ')
    (q : ∀ σ', RE Γ am H ρ' σ' → (∀ own : List Nat, (∀ i ∈ tg.ix, i ∈ own) → L2.wipe σ' own = L2.wipe σ own) → Q σ' H) : gT X tg v σ H Q := by
  cases tg with
  | nm i =>
    cases e
    exact q _ (re.set r) fun own ho => wipe_set (ho i List.mem_cons_self)
  | tp is =>
    cases d with
    | tup ds =>
      obtain ⟨a, vs, rfl, h1, h2⟩ := r.tupv
      have hl : ∀ {is : List Nat} {ds : List D} {ρ ρ' : Env}, asgs is ds ρ = some ρ' → ds.length = is.length := by
        intro is
        induction is with
        | nil => intro ds ρ ρ' e; cases ds with | nil => rfl | cons _ _ => unfold asgs at e; cases e
        | cons i is ih => intro ds ρ ρ' e; cases ds with | nil => unfold asgs at e; cases e | cons d ds => unfold asgs at e; rw [List.length_cons, List.length_cons, ih e]
      exact ⟨a, vs, rfl, by rw [← hK]; exact h1.sq, by rw [h2.length]; exact hl e, gL_run re h2 e q⟩
    | _ => cases e
end
end PI

/-! comprehensions -/
namespace PI
open PySem PySem.Spec PyProof.Rows L2
abbrev W0 : WX := fun _ _ _ _ => False
def ownP (N : List Str) (own : List Nat) : List (Str × Nat) := own.filterMap fun i => (N[i]?).map fun x => (x, i)
section
variable {t : Tb} {Γ : Gm} {C : Cal} {N : List Str} {sc : Scope} {X : Cx} {W : WX} {p : Pos}
theorem PTsi {e : List Expr} {t t' : TT} (h : PTs X e t) (f : ∀ σ H Q, t' σ H Q → t σ H Q) : PTs X e t' := ⟨fun pins s σ H Q I q => h.run pins s σ H Q I (f σ H Q q)⟩
theorem PGi {e : Expr} {t t' : TG} (h : PG X e t) (f : ∀ v σ H Q, t' v σ H Q → t v σ H Q) : PG X e t' := ⟨fun pins s σ H v u Q I r q => h.run pins s σ H v u Q I r (f v σ H Q q)⟩
theorem t_nil : PTs X [] (tDT Γ W (fun ρ => evT C .nil ρ)) := PTsi pts_nil fun σ H Q q => by
  obtain ⟨am, ρ, S, r, re, q⟩ := q
  unfold evT M.ret at q
  exact q am H (.refl _ _) r
theorem t_one {a : E} {x : Expr} (h : Snd Γ C X W a x) : PTs X [x] (tDT Γ W (fun ρ => evT C (.cons a .nil) ρ)) := PTsi (pts_one h.pt) fun σ H Q q => by
  obtain ⟨am, ρ, S, r, re, q⟩ := q
  refine ⟨am, ρ, S, r, re, ?_⟩
  have e : evT C (.cons a .nil) ρ S = ((ev C a ρ).bind truM) S := by
    unfold evT evT M.bind M.ret
    cases ev C a ρ S with
    | ok d S1 =>
      dsimp only
      cases truM d S1 with
      | ok b S2 => cases b <;> rfl
      | exc c fs S2 => rfl
      | bad => rfl
    | exc c fs S1 => rfl
    | bad => rfl
  show Out _ _ _ _ _ (((ev C a ρ).bind truM) S)
  rw [← e]
  exact q
/-- with a list in the making -/
def tE (Γ : Gm) (m : Env → M D) : TE := fun σ H Q => ∃ l, tD (Γ.h l) W0 m σ H Q
def tT (Γ : Gm) (m : Env → M Bool) : TT := fun σ H Q => ∃ l, tDT (Γ.h l) W0 m σ H Q
theorem te_of {m : Env → M D} {e : Expr} (h : ∀ l, PE X e (tD (Γ.h l) W0 m)) : PE X e (tE Γ m) := ⟨fun pins s σ H Q I q => let ⟨l, q⟩ := q; (h l).run pins s σ H Q I q⟩
theorem tt_of {m : Env → M Bool} {e : List Expr} (h : ∀ l, PTs X e (tDT (Γ.h l) W0 m)) : PTs X e (tT Γ m) := ⟨fun pins s σ H Q I q => let ⟨l, q⟩ := q; (h l).run pins s σ H Q I q⟩
/-- a list that no value names gets an item -/
theorem tr_put {am : List Addr} {H : Hp} {D0 : Addr} {o o' : HO} (hD : H D0 = some o) (hn : ∀ vs, o ≠ .tup vs) (hl : D0 ∈ Γ.hid) : Tr Γ am H Γ.hid (upd H D0 o') where
  tup := fun a vs h => by
    rw [upd_ne]
    · exact h
    · intro e
      subst e
      rw [hD] at h
      cases h
      exact hn vs rfl
  kep := fun a u h f => by
    have : a ≠ D0 := fun e => f.2 (e ▸ hl)
    rw [upd_ne this]
    exact ⟨h, f.2⟩
theorem tr_start {am : List Addr} {H : Hp} {D0 : Addr} {o' : HO} (hD : H D0 = none) : Tr Γ am H (D0 :: Γ.hid) (upd H D0 o') where
  tup := fun a vs h => by
    rw [upd_ne (ne_of_none h hD)]
    exact h
  kep := fun a u h f => by
    have : a ≠ D0 := ne_of_none h hD
    rw [upd_ne this]
    exact ⟨h, fun m => (List.mem_cons.mp m).elim this f.2⟩
theorem tr_end {am : List Addr} {H : Hp} {D0 : Addr} : Tr (Γ.h (D0 :: Γ.hid)) am H Γ.hid H where
  tup := fun a vs h => h
  kep := fun a u h f => ⟨h, fun m => f.2 (List.mem_cons_of_mem _ m)⟩
theorem Ext.fill {am am' : List Addr} {H H' : Hp} {D0 : Addr} {o : HO} (e : Ext am H am' H') (hD : H D0 = none) : Ext am H am' (upd H' D0 o) where
  pre := e.pre
  fre := e.fre
  kep := fun a u h n => by rw [upd_ne (ne_of_none h hD)]; exact e.kep a u h n
  tup := fun a vs h => by rw [upd_ne (ne_of_none h hD)]; exact e.tup a vs h
  alv := fun a u h => by rw [upd_ne (ne_of_none h hD)]; exact e.alv a u h
theorem comp_lc (hK : Γ.K = X.K) {own : List Nat} {elt : E} {tg : T} {it : I} {ifs : Es} {σ : L2.St} {H : Hp} {Q : VK} (htg : ∀ i ∈ tg.ix, i ∈ own) (q : tD Γ W (ev C (.comp true own elt tg it ifs)) σ H Q) :
    tLc (tDI Γ W (evI C it)) (gT X tg) (tT Γ (fun ρ => evT C ifs ρ)) (tE Γ (ev C elt)) own σ H Q := by
  obtain ⟨am, ρ, S, r, re, q⟩ := q
  unfold ev at q
  refine ⟨am, ρ, S, r, re, (Out.bind q).mono fun xs S1 am1 H1 e1 r1 q1 J hJ D0 hD => ?_⟩
  have re1 := re.ext e1
  -- what the block computes
  have hr : ∃ ys S2, compL tg (fun ρ1 => evT C ifs ρ1) (fun ρ1 => ev C elt ρ1) (wipeE ρ own) xs 0 S1 = .ok ys S2 ∧ Out Γ am1 H1 (wo W σ) (KV Γ Q) ((M.bind (fun S => .ok ys S2) (fun ys => newL true ys)) S1) := by
    unfold M.bind M.calm at q1
    cases e : compL tg (fun ρ1 => evT C ifs ρ1) (fun ρ1 => ev C elt ρ1) (wipeE ρ own) xs 0 S1 with
    | ok ys S2 =>
      rw [e] at q1
      exact ⟨ys, S2, rfl, q1⟩
    | exc c fs S2 => rw [e] at q1; exact q1.elim
    | bad => rw [e] at q1; exact q1.elim
  obtain ⟨ys, S2, hc, q2⟩ := hr
  have q2 : Out Γ am1 H1 (wo W σ) (KV Γ Q) (newL true ys S2) := q2
  have hlen : ys.length ≤ lim ∧ Out Γ am1 H1 (wo W σ) (KV Γ Q) (.ok (.lst ys) S2) := by
    unfold newL at q2
    split at q2
    · exact ⟨by assumption, q2⟩
    · exact q2.elim
  obtain ⟨hlim, q3⟩ := hlen
  clear q2 q1 q
  -- the turns
  refine ⟨fun i m H' => m + i = xs.length ∧ ∃ (am' : List Addr) (S' : Sto) (acc rest : List D) (vs : List V), Rel (Γ.h (D0 :: Γ.hid)) am' S' H' ∧ Ext am1 H1 am' H' ∧ H' D0 = some (.lst vs) ∧ D0 ∉ am' ∧ RDs (Γ.h (D0 :: Γ.hid)) am' H' acc vs ∧
      acc ++ rest = ys ∧ compL tg (fun ρ1 => evT C ifs ρ1) (fun ρ1 => ev C elt ρ1) (wipeE ρ own) (xs.drop i) acc.length S' = .ok rest S2, ⟨xs.length, rfl, am1, S1, [], ys, [], ?_, (Ext.refl _ _).fill hD, upd_same, r1.out0 hD, RDs.nil, rfl, hc⟩, fun i m H' hI => ?_⟩
  · exact r1.tr (tr_start hD) (fun a ha => upd_ne fun e => r1.out0 hD (e ▸ ha)) fun a ha => (List.mem_cons.mp ha).elim (fun e => by subst e; exact ⟨_, upd_same⟩) fun ha => by
      obtain ⟨o, ho⟩ := r1.hal a ha
      exact ⟨o, by rw [upd_ne (ne_of_none ho hD)]; exact ho⟩
  obtain ⟨hm, am', S', acc, rest, vs, r', e', hD', hn', ha', hys, hcl⟩ := hI
  have rΓ : Rel Γ am' S' H' := Rel.tr (Γ := Γ.h (D0 :: Γ.hid)) (l := Γ.hid) tr_end (fun _ _ => rfl) (fun a ha => (r1.hals e') a ha) r'
  have tr0 : Tr Γ am1 H1 (D0 :: Γ.hid) H1 := ⟨fun _ _ h => h, fun a o h f => ⟨h, fun m => (List.mem_cons.mp m).elim (ne_of_none h hD) f.2⟩⟩
  obtain ⟨jg, js⟩ := hJ (D0 :: Γ.hid) am' S' H' tr0 e' r'
  by_cases hend : i = xs.length
  · -- the end
    left
    subst hend
    rw [List.drop_length] at hcl
    unfold compL M.ret at hcl
    cases hcl
    rw [List.append_nil] at hys
    subst hys
    refine ⟨js, q3 am' H' e' rΓ _ ?_⟩
    unfold RD
    exact ⟨D0, vs, rfl, hD', ⟨hn', fun hh => by
      obtain ⟨o, ho⟩ := r1.hal D0 hh
      rw [hD] at ho
      cases ho⟩, RDs.tr (Γ := Γ.h (D0 :: Γ.hid)) (l := Γ.hid) tr_end ha'⟩
  · right
    have hlt : i < xs.length := by omega
    have hx : xs[i]? = some (xs[i]'hlt) := List.getElem?_eq_getElem hlt
    generalize hd : xs[i]'hlt = d at hx
    obtain ⟨jgo, jy⟩ := jg i d hx
    have hdrop : xs.drop i = d :: xs.drop (i + 1) := by rw [List.drop_eq_getElem_cons hlt, hd]
    rw [hdrop] at hcl
    refine ⟨jgo, fun H'' => ∃ m', m' < m ∧ (m' + (i + 1) = xs.length ∧ ∃ (am' : List Addr) (S' : Sto) (acc rest : List D) (vs : List V), Rel (Γ.h (D0 :: Γ.hid)) am' S' H'' ∧ Ext am1 H1 am' H'' ∧ H'' D0 = some (.lst vs) ∧ D0 ∉ am' ∧ RDs (Γ.h (D0 :: Γ.hid)) am' H'' acc vs ∧
      acc ++ rest = ys ∧ compL tg (fun ρ1 => evT C ifs ρ1) (fun ρ1 => ev C elt ρ1) (wipeE ρ own) (xs.drop (i + 1)) acc.length S' = .ok rest S2), fun H'' h => h, fun x H2 hy => ?_⟩
    obtain ⟨f1, f2, f3⟩ := jy x H2 hy
    have hv2 : H2 D0 = some (.lst vs) := f1.kep D0 _ hD' hn'
    have ha2 := ha'.ext f1
    unfold compL at hcl
    cases has : asgT tg d (wipeE ρ own) with
    | none => rw [has] at hcl; cases hcl
    | some ρ1 =>
      rw [has] at hcl
      have hcl : ((evT C ifs ρ1).bind fun b => if b then (ev C elt ρ1).bind fun y => (if acc.length < lim then (compL tg (fun ρ1 => evT C ifs ρ1) (fun ρ1 => ev C elt ρ1) (wipeE ρ own) (xs.drop (i + 1)) (acc.length + 1)).bind fun ys => .ret (y :: ys) else .fail) else compL tg (fun ρ1 => evT C ifs ρ1) (fun ρ1 => ev C elt ρ1) (wipeE ρ own) (xs.drop (i + 1)) acc.length) S' = .ok rest S2 := hcl
      have rew : RE (Γ.h (D0 :: Γ.hid)) am' H2 (wipeE ρ own) (L2.wipe σ own) := RE.wipe ⟨re1.1, fun j e hj => by
        obtain ⟨w, h1, h2⟩ := re1.2 j e hj
        exact ⟨w, h1, ((h2.tr tr0).ext e').ext f1⟩⟩ own
      refine gT_run (Γ := Γ.h (D0 :: Γ.hid)) (am := am') hK rew f3 has fun σ2 re2 hw => ⟨by rw [hw own htg, wipe_wipe], D0 :: Γ.hid, am', ρ1, S', f2, re2, ?_⟩
      unfold M.bind at hcl
      dsimp only
      cases et : evT C ifs ρ1 S' with
      | exc c fs S3 => rw [et] at hcl; cases hcl
      | bad => rw [et] at hcl; cases hcl
      | ok b S3 =>
        rw [et] at hcl
        dsimp only at hcl
        intro am3 H3 e3 r3
        have hv3 : H3 D0 = some (.lst vs) := e3.kep D0 _ hv2 hn'
        have hn3 : D0 ∉ am3 := e3.out hv2 hn'
        have ee3 : Ext am1 H1 am3 H3 := (e'.trans f1).trans e3
        cases b with
        | false =>
          rw [if_neg Bool.false_ne_true] at hcl ⊢
          exact ⟨m - 1, by omega, by omega, am3, S3, acc, rest, vs, r3, ee3, hv3, hn3, ha2.ext e3, hys, hcl⟩
        | true =>
          rw [if_pos rfl] at hcl ⊢
          refine ⟨D0 :: Γ.hid, am3, ρ1, S3, r3, re2.ext e3, ?_⟩
          cases ee : ev C elt ρ1 S3 with
          | exc c fs S4 => rw [ee] at hcl; cases hcl
          | bad => rw [ee] at hcl; cases hcl
          | ok y S4 =>
            rw [ee] at hcl
            dsimp only at hcl
            intro am4 H4 e4 r4 v4 hy4
            have hv4 : H4 D0 = some (.lst vs) := e4.kep D0 _ hv3 hn3
            have hn4 : D0 ∉ am4 := e4.out hv3 hn3
            have ee4 : Ext am1 H1 am4 H4 := ee3.trans e4
            have ha4 : RDs (Γ.h (D0 :: Γ.hid)) am4 H4 acc vs := (ha2.ext e3).ext e4
            split at hcl
            · rename_i hl
              dsimp only at hcl
              split at hcl
              · rename_i rest' S5 e5
                have hcl : R.ok (y :: rest') S5 = R.ok rest S2 := hcl
                cases hcl
                have tp : Tr (Γ.h (D0 :: Γ.hid)) am4 H4 (D0 :: Γ.hid) (upd H4 D0 (.lst (vs ++ [v4]))) := tr_put (Γ := Γ.h (D0 :: Γ.hid)) hv4 (fun _ e => by cases e) List.mem_cons_self
                refine ⟨vs, hv4, by rw [ha4.length, ← lim_eq]; exact hl, m - 1, by omega, by omega, am4, S4, acc ++ [y], rest', vs ++ [v4], ?_, ee4.fill hD, upd_same, hn4, (ha4.append (RDs.cons hy4 RDs.nil)).tr tp, by rw [List.append_assoc]; exact hys, by rw [List.length_append]; exact e5⟩
                exact Rel.tr (Γ := Γ.h (D0 :: Γ.hid)) tp (fun a ha => upd_ne fun e => hn4 (e ▸ ha)) (fun a ha => (List.mem_cons.mp ha).elim (fun e => by subst e; exact ⟨_, upd_same⟩) fun ha => by
                  obtain ⟨o, ho⟩ := r1.hals ee4 a ha
                  by_cases e : a = D0
                  · subst e; exact ⟨_, upd_same⟩
                  · exact ⟨o, by rw [upd_ne e]; exact ho⟩) r4
              · cases hcl
              · cases hcl
            · cases hcl
theorem s_comp (G : Good t Γ C N sc X) {scope : Scope} {own : List Nat} {elt : E} {tg : T} {it : I} {ifs : Es} {eltE tgE itE : Expr} {ifsE : List Expr} (ok : blkC N sc scope (ownP N own) = true) (hown : (ownP N own).map (·.2) = own) (htg : ∀ i ∈ tg.ix, i ∈ own)
    (hi : PI X tgE itE (tDI Γ W (evI C it))) (hg : ∀ (s : Shared) (H : Hp) (C' : Addr) (cl : List (Str × Addr)) (fp : List Addr), PG (X.blk s H scope (compEnvC scope cl C' X.env) fp) tgE (gT X tg))
    (ht : ∀ (l : List Addr) (s : Shared) (H : Hp) (C' : Addr) (cl : List (Str × Addr)) (fp : List Addr), PTs (X.blk s H scope (compEnvC scope cl C' X.env) fp) ifsE (tDT (Γ.h l) W0 (fun ρ => evT C ifs ρ)))
    (he : ∀ (l : List Addr) (s : Shared) (H : Hp) (C' : Addr) (cl : List (Str × Addr)) (fp : List Addr), PE (X.blk s H scope (compEnvC scope cl C' X.env) fp) eltE (tD (Γ.h l) W0 (ev C elt))) (hs : noSet itE = true) :
    Snd Γ C X W (.comp true own elt tg it ifs) (.ListComp eltE [⟨tgE, itE, ifsE, 0⟩] scope p) := by
  have ok' : BlkOk X.N X.env.scope scope (ownP N own) := by rw [G.hN, G.hsc]; exact blkOk_by ok
  refine Snd.of G.hK (PEi (pe_lc (te := tE Γ (ev C elt)) (tt := tT Γ (fun ρ => evT C ifs ρ)) G.calm G.nd hi ok' hg (fun s H C' cl fp => tt_of fun l => ht l s H C' cl fp) (fun s H C' cl fp => te_of fun l => he l s H C' cl fp) (no_fold hs)) fun σ H Q q => ?_) rfl
  rw [hown]
  exact comp_lc G.hK htg q
def blockK (sc : Scope) : ScopeKind := if sc.kind.isAnnotationScope then .function else sc.kind
def swB (sc scope : Scope) (y : Str) (py pos : Pos) : Bool := blockK sc == .function && sc.names.lookup y == some .local && py.line == pos.line && !(scope.names.any fun (n, k) => n == y && (k == .local || k == .cell))
theorem sw_lc {sc scope : Scope} (h : X.env.scope = sc) {elt : Expr} {gs : List Comprehension} {pos py : Pos} {y : Str} {l : Nat} : swapsWith (.ListComp elt gs scope pos) (some (.Name y py)) l X.env = pure (swB sc scope y py pos) := by
  rw [← h]
  rfl
end
end PI

/-! the check of expressions -/
namespace PI
open PySem PySem.Spec PyProof.Rows L2
mutual
def beqD : D → D → Bool
  | .non, .non => true
  | .bl a, .bl b => a == b
  | .int a, .int b => decide (a = b)
  | .str a, .str b => decide (a = b)
  | .tup a, .tup b => beqDs a b
  | _, _ => false
def beqDs : List D → List D → Bool
  | [], [] => true
  | a :: as, b :: bs => beqD a b && beqDs as bs
  | _, _ => false
end
mutual
theorem beqD_eq : ∀ {a b : D}, beqD a b = true → a = b
  | .non, b, h => by cases b <;> first | rfl | (unfold beqD at h; cases h)
  | .bl x, b, h => by
    cases b <;> first | (unfold beqD at h; cases h; done) | skip
    rename_i y
    unfold beqD at h
    rw [eq_of_beq h]
  | .int x, b, h => by
    cases b <;> first | (unfold beqD at h; cases h; done) | skip
    unfold beqD at h
    rw [of_decide_eq_true h]
  | .str x, b, h => by
    cases b <;> first | (unfold beqD at h; cases h; done) | skip
    unfold beqD at h
    rw [of_decide_eq_true h]
  | .tup x, b, h => by
    cases b <;> first | (unfold beqD at h; cases h; done) | skip
    unfold beqD at h
    rw [beqDs_eq h]
  | .lst _, b, h => by unfold beqD at h; cases h
  | .scr _, b, h => by unfold beqD at h; cases h
  | .ref _, b, h => by unfold beqD at h; cases h
  | .fn _, b, h => by unfold beqD at h; cases h
  | .clo _ _, b, h => by unfold beqD at h; cases h
theorem beqDs_eq : ∀ {a b : List D}, beqDs a b = true → a = b
  | [], [], _ => rfl
  | [], _ :: _, h => by unfold beqDs at h; cases h
  | _ :: _, [], h => by unfold beqDs at h; cases h
  | a :: as, b :: bs, h => by
    unfold beqDs at h
    rw [Bool.and_eq_true] at h
    rw [beqD_eq h.1, beqDs_eq h.2]
end
def ckC (t : Tb) (sc : Scope) (d : D) : Expr → Bool
  | .Constant (.int j) _ _ => (match d with | .int i => decide (i = j) | _ => false)
  | .Constant (.bool c) _ _ => (match d with | .bl b => b == c | _ => false)
  | .Constant .none _ _ => (match d with | .non => true | _ => false)
  | .Constant (.str x) _ _ => (match d with | .str s => decide (x = ⟨s.toArray⟩) | _ => false)
  | .Name x _ => glB sc x && okN x && (match t.gcs x with | some d' => beqD d d' | none => false)
  | _ => false
def ckG (t : Tb) (sc : Scope) (nx due : Str) : Bool := decide (nx = due) && glB sc nx && t.fre nx && okN nx
mutual
def ckE (t : Tb) (N : List Str) : Scope → E → Expr → Bool
  | sc, .loc i, a => (match a with | .Name x _ => decide (N[i]? = some x) && visB sc x && okN x | _ => false)
  | sc, .cst d, a => ckC t sc d a
  | sc, .gfn f, a => (match a with | .Name x _ => glB sc x && decide (t.gfn x = some f) && okN x | _ => false)
  | sc, .bin op a b, e => (match e with | .BinOp x o y _ => decide (o = op.opr) && ckE t N sc a x && ckE t N sc b y | _ => false)
  | sc, .neg a, e => (match e with | .UnaryOp o x _ => decide (o = .USub) && ckE t N sc a x | _ => false)
  | sc, .inv a, e => (match e with | .UnaryOp o x _ => decide (o = .Invert) && ckE t N sc a x | _ => false)
  | sc, .not a, e => (match e with | .UnaryOp o x _ => decide (o = .Not) && ckE t N sc a x | _ => false)
  | sc, .cmp op a b, e => (match e with | .Compare x [o] [y] _ => decide (o = op.opr) && noSet y && ckE t N sc a x && ckE t N sc b y | _ => false)
  | sc, .chn o1 o2 a b c, e => (match e with | .Compare x [p1, p2] [y, z] _ => decide (p1 = o1.opr) && decide (p2 = o2.opr) && noSet z && ckE t N sc a x && ckE t N sc b y && ckE t N sc c z | _ => false)
  | sc, .and a b, e => (match e with
    | .BoolOp o (x :: y :: l) p => decide (o = .And) && ckE t N sc a x && ckE t N sc b (match l with | [] => y | _ => .BoolOp .And (y :: l) p)
    | _ => false)
  | sc, .or a b, e => (match e with
    | .BoolOp o (x :: y :: l) p => decide (o = .Or) && ckE t N sc a x && ckE t N sc b (match l with | [] => y | _ => .BoolOp .Or (y :: l) p)
    | _ => false)
  | sc, .ite c a b, e => (match e with | .IfExp z x y _ => ckE t N sc c z && ckE t N sc a x && ckE t N sc b y | _ => false)
  | sc, .tup es, e => (match e with | .Tuple l _ _ => ckS t N sc es l | _ => false)
  | sc, .lst _ es, e => (match e with | .List l _ => ckS t N sc es l | _ => false)
  | sc, .idx a b, e => (match e with | .Subscript x y _ => noSlice y && ckE t N sc a x && ckE t N sc b y | _ => false)
  | sc, .slL a b, e => (match e with | .Subscript x (.Slice (some y) none none _) _ => ckE t N sc a x && ckE t N sc b y | _ => false)
  | sc, .slU a b, e => (match e with | .Subscript x (.Slice none (some y) none _) _ => ckE t N sc a x && ckE t N sc b y | _ => false)
  | sc, .slLU a b c, e => (match e with | .Subscript x (.Slice (some y) (some z) none _) _ => ckE t N sc a x && ckE t N sc b y && ckE t N sc c z | _ => false)
  | sc, .rev a, e => (match e with | .Subscript x (.Slice none none (some (.UnaryOp o (.Constant (.int j) _ _) _)) _) _ => decide (o = .USub) && decide (j = 1) && ckE t N sc a x | _ => false)
  | sc, .call f es kes ks, e => (match e with
    | .Call (.Name nx _) l kws _ => glB sc nx && decide (t.gfn nx = some f) && okN nx && ckS t N sc es l && ckK t N sc kes kws && t.shp f l.length ks && decide (kws.map (·.arg) = (t.kn f ks).map some) && decide (kws.length = ks.length)
    | _ => false)
  | sc, .bi b es, e => (match e with
    | .Call (.Name nx _) l [] _ => (match b with
      | .isi ty => (match l with | [x, .Name ny _] => ckG t sc nx "isinstance" && ckG t sc ny ty.sn && ckS t N sc es [x] | _ => false)
      | b => (match l with | _ :: _ => ckG t sc nx b.nm && ckS t N sc es l | _ => false))
    | _ => false)
  | sc, .me m o es, e => (match e with
    | .Call (.Attribute x nm apos) l [] p => okAttr x && (apos.endLine == p.line) && ckE t N sc o x && (match m with
      | .append => (match l with | [_] => decide (nm = "append") && ckS t N sc es l | _ => false)
      | .pop => (match l with | [] => decide (nm = "pop") && ckS t N sc es [] | _ => false)
      | .bitLen => (match l with | [] => decide (nm = "bit_length") && ckS t N sc es [] | _ => false)
      | .join => false)
    | _ => false)
  | sc, .comp fz own elt tg it ifs, e => (match e with
    | .ListComp eltE [⟨tgE, itE, ifsE, asy⟩] scope _ => fz && decide (asy = 0) && blkC N sc scope (ownP N own) && decide ((ownP N own).map (·.2) = own) && tg.ix.all (fun i => decide (i ∈ own)) && ckI t N sc it tgE itE && noSet itE &&
      tgB N (relS scope sc) (fun x => scope.names.lookup x == some .cell) tg tgE && ckT t N (relS scope sc) ifs ifsE && ckE t N (relS scope sc) elt eltE
    | _ => false)
def ckS (t : Tb) (N : List Str) : Scope → Es → List Expr → Bool
  | _, .nil, l => (match l with | [] => true | _ => false)
  | sc, .cons e es, l => (match l with | x :: l => noStar x && ckE t N sc e x && ckS t N sc es l | _ => false)
def ckT (t : Tb) (N : List Str) : Scope → Es → List Expr → Bool
  | _, .nil, l => (match l with | [] => true | _ => false)
  | sc, .cons e es, l => (match l with | [x] => ckE t N sc e x && (match es with | .nil => true | _ => false) | _ => false)
def ckK (t : Tb) (N : List Str) : Scope → Es → List Keyword → Bool
  | _, .nil, l => (match l with | [] => true | _ => false)
  | sc, .cons e es, l => (match l with | ⟨_, x, _⟩ :: l => ckE t N sc e x && ckK t N sc es l | _ => false)
def ckI (t : Tb) (N : List Str) : Scope → I → Expr → Expr → Bool
  | sc, .ex e, _, a => ckE t N sc e a
  | sc, .rng es, _, a => (match a with
    | .Call (.Name nx _) l [] _ => ckG t sc nx "range" && ckS t N sc es l && (match l with | [_] => true | [_, _] => true | _ => false)
    | _ => false)
  | sc, .enm e, tg, a => (match tg with | .Tuple _ _ _ => true | _ => false) && (match a with
    | .Call (.Name nx _) [x] [] _ => ckG t sc nx "enumerate" && noStar x && ckE t N sc e x
    | _ => false)
  | sc, .zp e f, tg, a => (match tg with | .Tuple _ _ _ => true | _ => false) && (match a with
    | .Call (.Name nx _) [x, y] [] _ => ckG t sc nx "zip" && noStar x && noStar y && ckE t N sc e x && ckE t N sc f y
    | _ => false)
  | sc, .rv e, _, a => (match a with
    | .Call (.Name nx _) [x] [] _ => ckG t sc nx "reversed" && noStar x && ckE t N sc e x
    | _ => false)
end
end PI

/-! the check is sound -/
namespace PI
open PySem PySem.Spec PyProof.Rows L2
section
variable {t : Tb} {N : List Str} {C : Cal}
theorem and2 {a b : Bool} (h : (a && b) = true) : a = true ∧ b = true := by rw [Bool.and_eq_true] at h; exact h
theorem ckG_d {sc : Scope} {nx due : Str} (h : ckG t sc nx due = true) : nx = due ∧ glB sc nx = true ∧ t.fre nx = true ∧ okN nx = true := by
  unfold ckG at h
  simp only [Bool.and_eq_true, decide_eq_true_eq] at h
  exact ⟨h.1.1.1, h.1.1.2, h.1.2, h.2⟩
theorem ckS_len : ∀ {sc : Scope} {es : Es} {l : List Expr}, ckS t N sc es l = true → es.len = l.length ∧ l.all noStar = true
  | sc, .nil, l, h => by
    unfold ckS at h
    cases l with
    | nil => exact ⟨rfl, rfl⟩
    | cons _ _ => cases h
  | sc, .cons e es, l, h => by
    unfold ckS at h
    cases l with
    | nil => cases h
    | cons x l =>
      simp only [Bool.and_eq_true] at h
      obtain ⟨h1, h2⟩ := ckS_len h.2
      refine ⟨by show es.len + 1 = l.length + 1; rw [h1], ?_⟩
      rw [List.all_cons, h.1.1, h2]
      rfl
theorem ckK_len : ∀ {sc : Scope} {es : Es} {l : List Keyword}, ckK t N sc es l = true → es.len = l.length
  | sc, .nil, l, h => by
    unfold ckK at h
    cases l with
    | nil => rfl
    | cons _ _ => cases h
  | sc, .cons e es, l, h => by
    unfold ckK at h
    cases l with
    | nil => cases h
    | cons x l =>
      obtain ⟨_, x, _⟩ := x
      simp only [Bool.and_eq_true] at h
      show es.len + 1 = l.length + 1
      rw [ckK_len h.2]
theorem ckC_ok {Γ : Gm} {sc : Scope} {X : Cx} {W : WX} {d : D} {a : Expr} (G : Good t Γ C N sc X) (h : ckC t sc d a = true) : Snd Γ C X W (.cst d) a := by
  unfold ckC at h
  split at h
  · cases d <;> first | (cases h; done) | skip
    rename_i i
    have := of_decide_eq_true h
    subst this
    exact s_cst G (fun _ _ => by unfold RD; rfl) pe_int rfl
  · cases d <;> first | (cases h; done) | skip
    have := eq_of_beq h
    subst this
    exact s_cst G (fun _ _ => by unfold RD; rfl) pe_bl rfl
  · cases d <;> first | (cases h; done) | skip
    exact s_cst G (fun _ _ => by unfold RD; rfl) pe_non rfl
  · cases d <;> first | (cases h; done) | skip
    have := of_decide_eq_true h
    subst this
    exact s_cst G (fun _ _ => by unfold RD; rfl) pe_str rfl
  · simp only [Bool.and_eq_true] at h
    cases e : t.gcs _ with
    | none => rw [e] at h; exact nomatch h.2
    | some d' =>
      rw [e] at h
      have := beqD_eq h.2
      subst this
      exact s_gcs G h.1.1 e h.1.2
  · cases h
mutual
theorem ckE_ok {Γ : Gm} {sc : Scope} {X : Cx} {W : WX} (G : Good t Γ C N sc X) (tk : Takes X W) : ∀ {e : E} {a : Expr}, ckE t N sc e a = true → Snd Γ C X W e a
  | .loc i, a, h => by
    unfold ckE at h
    split at h
    · simp only [Bool.and_eq_true, decide_eq_true_eq] at h
      exact s_loc G h.1.1 h.1.2 h.2
    · cases h
  | .cst d, a, h => by
    unfold ckE at h
    exact ckC_ok G h
  | .gfn f, a, h => by
    unfold ckE at h
    split at h
    · simp only [Bool.and_eq_true, decide_eq_true_eq] at h
      exact s_gfn G h.1.1 h.1.2 h.2
    · cases h
  | .bin op a b, e, h => by
    unfold ckE at h
    split at h
    · simp only [Bool.and_eq_true, decide_eq_true_eq] at h
      obtain ⟨⟨rfl, h1⟩, h2⟩ := h
      exact s_bin G op (ckE_ok G tk h1) (ckE_ok G tk h2)
    · cases h
  | .neg a, e, h => by
    unfold ckE at h
    split at h
    · simp only [Bool.and_eq_true, decide_eq_true_eq] at h
      obtain ⟨rfl, h1⟩ := h
      exact s_un G un_neg (ckE_ok G tk h1) (fun ρ => rfl) rfl
    · cases h
  | .inv a, e, h => by
    unfold ckE at h
    split at h
    · simp only [Bool.and_eq_true, decide_eq_true_eq] at h
      obtain ⟨rfl, h1⟩ := h
      exact s_un G un_inv (ckE_ok G tk h1) (fun ρ => rfl) rfl
    · cases h
  | .not a, e, h => by
    unfold ckE at h
    split at h
    · simp only [Bool.and_eq_true, decide_eq_true_eq] at h
      obtain ⟨rfl, h1⟩ := h
      exact s_not G (ckE_ok G tk h1)
    · cases h
  | .cmp op a b, e, h => by
    unfold ckE at h
    split at h
    · simp only [Bool.and_eq_true, decide_eq_true_eq] at h
      obtain ⟨⟨⟨rfl, h0⟩, h1⟩, h2⟩ := h
      exact s_cmp G op (ckE_ok G tk h1) (ckE_ok G tk h2) h0
    · cases h
  | .chn o1 o2 a b c, e, h => by
    unfold ckE at h
    split at h
    · simp only [Bool.and_eq_true, decide_eq_true_eq] at h
      obtain ⟨⟨⟨⟨⟨rfl, rfl⟩, h0⟩, h1⟩, h2⟩, h3⟩ := h
      exact s_chn G o1 o2 (ckE_ok G tk h1) (ckE_ok G tk h2) (ckE_ok G tk h3) h0
    · cases h
  | .and a b, e, h => by
    unfold ckE at h
    split at h
    · rename_i o x y l p
      simp only [Bool.and_eq_true, decide_eq_true_eq] at h
      obtain ⟨⟨rfl, h1⟩, h2⟩ := h
      cases l with
      | nil => exact s_and G (ckE_ok G tk h1) (SndB.one (ckE_ok G tk h2) _)
      | cons z l => exact s_and G (ckE_ok G tk h1) (SndB.of (ckE_ok G tk h2))
    · cases h
  | .or a b, e, h => by
    unfold ckE at h
    split at h
    · rename_i o x y l p
      simp only [Bool.and_eq_true, decide_eq_true_eq] at h
      obtain ⟨⟨rfl, h1⟩, h2⟩ := h
      cases l with
      | nil => exact s_or G (ckE_ok G tk h1) (SndB.one (ckE_ok G tk h2) _)
      | cons z l => exact s_or G (ckE_ok G tk h1) (SndB.of (ckE_ok G tk h2))
    · cases h
  | .ite c a b, e, h => by
    unfold ckE at h
    split at h
    · simp only [Bool.and_eq_true] at h
      exact s_ite G (ckE_ok G tk h.1.1) (ckE_ok G tk h.1.2) (ckE_ok G tk h.2)
    · cases h
  | .tup es, e, h => by
    unfold ckE at h
    split at h
    · exact s_tup G (ckS_ok G tk h)
    · cases h
  | .lst fz es, e, h => by
    unfold ckE at h
    split at h
    · exact s_lst G (ckS_ok G tk h)
    · cases h
  | .idx a b, e, h => by
    unfold ckE at h
    split at h
    · simp only [Bool.and_eq_true] at h
      exact s_idx G (ckE_ok G tk h.1.2) (ckE_ok G tk h.2) h.1.1
    · cases h
  | .slL a b, e, h => by
    unfold ckE at h
    split at h
    · simp only [Bool.and_eq_true] at h
      exact s_slL G (ckE_ok G tk h.1) (ckE_ok G tk h.2)
    · cases h
  | .slU a b, e, h => by
    unfold ckE at h
    split at h
    · simp only [Bool.and_eq_true] at h
      exact s_slU G (ckE_ok G tk h.1) (ckE_ok G tk h.2)
    · cases h
  | .slLU a b c, e, h => by
    unfold ckE at h
    split at h
    · simp only [Bool.and_eq_true] at h
      exact s_slLU G (ckE_ok G tk h.1.1) (ckE_ok G tk h.1.2) (ckE_ok G tk h.2)
    · cases h
  | .rev a, e, h => by
    unfold ckE at h
    split at h
    · simp only [Bool.and_eq_true, decide_eq_true_eq] at h
      obtain ⟨⟨rfl, rfl⟩, h1⟩ := h
      exact s_rev G (ckE_ok G tk h1)
    · cases h
  | .call f es kes ks, e, h => by
    unfold ckE at h
    split at h
    · simp only [Bool.and_eq_true, decide_eq_true_eq] at h
      obtain ⟨⟨⟨⟨⟨⟨⟨h1, h2⟩, h3⟩, h4⟩, h5⟩, h6⟩, h7⟩, h8⟩ := h
      obtain ⟨k1, k2⟩ := ckS_len h4
      exact s_call G tk h1 h2 h3 (ckS_ok G tk h4) (ckK_ok G tk h5) k1 k2 h6 h7 (by rw [ckK_len h5, h8])
    · cases h
  | .bi b es, e, h => by
    unfold ckE at h
    split at h
    · rename_i nx p1 l p
      have main : ∀ (hb : b.isI = false) (x : Expr) (l' : List Expr), l = x :: l' → (ckG t sc nx b.nm && ckS t N sc es l) = true → Snd Γ C X W (.bi b es) (.Call (.Name nx p1) l [] p) := by
        intro hb x l' hl h
        subst hl
        obtain ⟨h1, h2⟩ := and2 h
        obtain ⟨g1, g2, g3, g4⟩ := ckG_d h1
        exact s_bi G hb g1 g2 g3 g4 (ckS_ok G tk h2) (ckS_len h2).2
      cases b with
      | isi ty =>
        dsimp only at h
        split at h
        · rename_i x ny p2
          simp only [Bool.and_eq_true] at h
          obtain ⟨⟨h1, h2⟩, h3⟩ := h
          obtain ⟨g1, g2, g3, g4⟩ := ckG_d h1
          obtain ⟨k1, k2, k3, k4⟩ := ckG_d h2
          cases es with
          | nil => unfold ckS at h3; cases h3
          | cons e1 es =>
            unfold ckS at h3
            simp only [Bool.and_eq_true] at h3
            cases es with
            | nil => exact s_isi G g1 k1 g2 k2 g3 k3 g4 k4 (ckE_ok G tk h3.1.2) h3.1.1
            | cons _ _ => have h4 := h3.2; unfold ckS at h4; cases h4
        · cases h
      | _ =>
        cases l with
        | nil => cases h
        | cons x l' => exact main rfl x l' rfl h
    · cases h
  | .me m o es, e, h => by
    unfold ckE at h
    split at h
    · rename_i x nm apos l p
      simp only [Bool.and_eq_true] at h
      obtain ⟨⟨⟨h1, h2⟩, h3⟩, h4⟩ := h
      cases m with
      | append =>
        dsimp only at h4
        split at h4
        · simp only [Bool.and_eq_true, decide_eq_true_eq] at h4
          obtain ⟨rfl, h4⟩ := h4
          cases es with
          | nil => unfold ckS at h4; cases h4
          | cons e1 es =>
            unfold ckS at h4
            simp only [Bool.and_eq_true] at h4
            cases es with
            | nil => exact s_append G (ckE_ok G tk h3) (ckE_ok G tk h4.1.2) h1 h2 h4.1.1
            | cons _ _ => have h5 := h4.2; unfold ckS at h5; cases h5
        · cases h4
      | pop =>
        dsimp only at h4
        split at h4
        · simp only [Bool.and_eq_true, decide_eq_true_eq] at h4
          obtain ⟨rfl, h4⟩ := h4
          cases es with
          | nil => exact s_pop G (ckE_ok G tk h3) h1 h2
          | cons _ _ => unfold ckS at h4; cases h4
        · cases h4
      | bitLen =>
        dsimp only at h4
        split at h4
        · simp only [Bool.and_eq_true, decide_eq_true_eq] at h4
          obtain ⟨rfl, h4⟩ := h4
          cases es with
          | nil => exact s_bits G (ckE_ok G tk h3) h1 h2
          | cons _ _ => unfold ckS at h4; cases h4
        · cases h4
      | join => cases h4
    · cases h
  | .comp fz own elt tg it ifs, e, h => by
    unfold ckE at h
    split at h
    · rename_i eltE tgE itE ifsE asy scope p
      simp only [Bool.and_eq_true, decide_eq_true_eq, List.all_eq_true] at h
      obtain ⟨⟨⟨⟨⟨⟨⟨⟨⟨rfl, rfl⟩, h1⟩, h2⟩, h3⟩, h4⟩, h5⟩, h6⟩, h7⟩, h8⟩ := h
      exact s_comp G h1 h2 h3 (ckI_ok G tk h4)
        (fun s H C' cl fp => tgB_ok (G.blk Γ.hid s H C' cl fp) (fun x h => h) h6)
        (fun l s H C' cl fp => ckT_ok (G.blk l s H C' cl fp) LamX.takes0 h7)
        (fun l s H C' cl fp => (ckE_ok (G.blk l s H C' cl fp) LamX.takes0 h8).pe) h5
    · cases h
theorem ckS_ok {Γ : Gm} {sc : Scope} {X : Cx} {W : WX} (G : Good t Γ C N sc X) (tk : Takes X W) : ∀ {es : Es} {l : List Expr}, ckS t N sc es l = true → PA X l (tDA Γ W (evs C es))
  | .nil, l, h => by
    unfold ckS at h
    split at h
    · exact a_nil
    · cases h
  | .cons e es, l, h => by
    unfold ckS at h
    split at h
    · simp only [Bool.and_eq_true] at h
      exact a_cons (ckE_ok G tk h.1.2) h.1.1 (ckS_ok G tk h.2)
    · cases h
theorem ckT_ok {Γ : Gm} {sc : Scope} {X : Cx} {W : WX} (G : Good t Γ C N sc X) (tk : Takes X W) : ∀ {es : Es} {l : List Expr}, ckT t N sc es l = true → PTs X l (tDT Γ W (fun ρ => evT C es ρ))
  | .nil, l, h => by
    unfold ckT at h
    split at h
    · exact t_nil
    · cases h
  | .cons e es, l, h => by
    unfold ckT at h
    split at h
    · simp only [Bool.and_eq_true] at h
      cases es with
      | nil => exact t_one (ckE_ok G tk h.1)
      | cons _ _ => exact nomatch h.2
    · cases h
theorem ckK_ok {Γ : Gm} {sc : Scope} {X : Cx} {W : WX} (G : Good t Γ C N sc X) (tk : Takes X W) : ∀ {es : Es} {l : List Keyword}, ckK t N sc es l = true → PK X l (tDA Γ W (evs C es))
  | .nil, l, h => by
    unfold ckK at h
    split at h
    · exact k_nil
    · cases h
  | .cons e es, l, h => by
    unfold ckK at h
    split at h
    · simp only [Bool.and_eq_true] at h
      exact k_cons (ckE_ok G tk h.1) (ckK_ok G tk h.2)
    · cases h
theorem ckI_ok {Γ : Gm} {sc : Scope} {X : Cx} {W : WX} (G : Good t Γ C N sc X) (tk : Takes X W) : ∀ {it : I} {tg a : Expr}, ckI t N sc it tg a = true → PI X tg a (tDI Γ W (evI C it))
  | .ex e, tg, a, h => by
    unfold ckI at h
    exact i_ex G (ckE_ok G tk h)
  | .rng es, tg, a, h => by
    unfold ckI at h
    split at h
    · rename_i nx p1 l p
      simp only [Bool.and_eq_true] at h
      obtain ⟨⟨h1, h2⟩, h3⟩ := h
      obtain ⟨g1, g2, g3, g4⟩ := ckG_d h1
      match l, h3 with
      | [x], _ =>
        cases es with
        | nil => unfold ckS at h2; cases h2
        | cons e1 es =>
          unfold ckS at h2
          simp only [Bool.and_eq_true] at h2
          cases es with
          | nil => exact i_rng1 G g1 g2 g3 (ckE_ok G tk h2.1.2) h2.1.1
          | cons _ _ => have h5 := h2.2; unfold ckS at h5; cases h5
      | [x, y], _ =>
        cases es with
        | nil => unfold ckS at h2; cases h2
        | cons e1 es =>
          unfold ckS at h2
          simp only [Bool.and_eq_true] at h2
          cases es with
          | nil => have h5 := h2.2; unfold ckS at h5; cases h5
          | cons e2 es =>
            have h5 := h2.2
            unfold ckS at h5
            simp only [Bool.and_eq_true] at h5
            cases es with
            | nil => exact i_rng2 G g1 g2 g3 (ckE_ok G tk h2.1.2) (ckE_ok G tk h5.1.2) h2.1.1 h5.1.1
            | cons _ _ => have h6 := h5.2; unfold ckS at h6; cases h6
    · cases h
  | .enm e, tg, a, h => by
    cases tg with
    | Tuple els kk tp =>
      unfold ckI at h
      replace h := (and2 h).2
      cases a <;> first | (cases h; done) | skip
      rename_i fe l ks p
      cases fe <;> first | (cases h; done) | skip
      match l, ks, h with
      | [x], [], h =>
        dsimp only at h
        simp only [Bool.and_eq_true] at h
        obtain ⟨g1, g2, g3, g4⟩ := ckG_d h.1.1
        exact i_enm G g1 g2 g3 (ckE_ok G tk h.2) h.1.2
    | _ => unfold ckI at h; cases h
  | .zp e f, tg, a, h => by
    cases tg with
    | Tuple els kk tp =>
      unfold ckI at h
      replace h := (and2 h).2
      cases a <;> first | (cases h; done) | skip
      rename_i fe l ks p
      cases fe <;> first | (cases h; done) | skip
      match l, ks, h with
      | [x, y], [], h =>
        dsimp only at h
        simp only [Bool.and_eq_true] at h
        obtain ⟨⟨⟨⟨h1, h2⟩, h3⟩, h4⟩, h5⟩ := h
        obtain ⟨g1, g2, g3, g4⟩ := ckG_d h1
        exact i_zp G g1 g2 g3 (ckE_ok G tk h4) (ckE_ok G tk h5) h2 h3
    | _ => unfold ckI at h; cases h
  | .rv e, tg, a, h => by
    unfold ckI at h
    split at h
    · simp only [Bool.and_eq_true] at h
      obtain ⟨g1, g2, g3, g4⟩ := ckG_d h.1.1
      exact i_rv G g1 g2 g3 (ckE_ok G tk h.2) h.1.2
    · cases h
end
end
end PI

/-! statements -/
namespace PI
open PySem PySem.Spec PyProof.Rows L2
def OutS (Γ : Gm) (am : List Addr) (H : Hp) (W : WX) (D0 : Ends) : RS → Prop
  | .ok f ρ S => ∀ (am' : List Addr) (H' : Hp) (σ : L2.St), Ext am H am' H' → Rel Γ am' S H' → RE Γ am' H' ρ σ → (match f with
    | .nx => D0.nx σ H'
    | .bk => D0.bk σ H'
    | .ct => D0.ct σ H'
    | .rt d => ∀ v, RD Γ am' H' d v → D0.rt v H')
  | .exc c fs ρ S => ∀ (am' : List Addr) (H' : Hp) (σ : L2.St) (cls : Value) (dx : Option Addr), Ext am H am' H' → Rel Γ am' S H' → RE Γ am' H' ρ σ → RX Γ am' H' c fs cls dx → W cls dx σ H'
  | .bad => False
def tS (Γ : Gm) (W : WX) (m : Env → Sto → RS) : TS := fun D0 σ H => ∃ (am : List Addr) (ρ : Env) (S : Sto), Rel Γ am S H ∧ RE Γ am H ρ σ ∧ OutS Γ am H W D0 (m ρ S)
section
variable {t : Tb} {Γ : Gm} {C : Cal} {N : List Str} {sc : Scope} {X : Cx} {W : WX} {a b c : E} {x y z : Expr} {p : Pos} {am am' : List Addr} {H H' : Hp} {S : Sto} {ρ : Env} {σ : L2.St}
theorem OutS.later {D0 : Ends} {r : RS} (h : OutS Γ am H W D0 r) (e : Ext am H am' H') : OutS Γ am' H' W D0 r := by
  cases r with
  | ok f ρ S => exact fun am2 H2 σ e2 => h am2 H2 σ (e.trans e2)
  | exc c fs ρ S => exact fun am2 H2 σ cls dx e2 => h am2 H2 σ cls dx (e.trans e2)
  | bad => exact h
theorem PSi {st : Stmt} {t t' : TS} (h : PS X st t) (f : ∀ D σ H, t' D σ H → t D σ H) : PS X st t' := ⟨fun pins s σ H D I q => h.run pins s σ H D I (f D σ H q)⟩
theorem PSsi {st : List Stmt} {t t' : TS} (h : PSs X st t) (f : ∀ D σ H, t' D σ H → t D σ H) : PSs X st t' := ⟨fun pins s σ H D I q => h.run pins s σ H D I (f D σ H q)⟩
/-- an expression's part of a statement -/
theorem lift_out {α : Type} {m : M α} {f : α → Sto → RS} {D0 : Ends} (re : RE Γ am H ρ σ) (q : OutS Γ am H W D0 (lift m ρ f S)) : Out Γ am H (wo W σ) (fun a S1 am1 H1 => OutS Γ am1 H1 W D0 (f a S1)) (m S) := by
  unfold lift at q
  cases e : m S with
  | ok a S1 =>
    rw [e] at q
    exact fun am1 H1 e1 _ => q.later e1
  | exc c fs S1 =>
    rw [e] at q
    exact fun am1 H1 cls dx e1 r1 x => q am1 H1 σ cls dx e1 r1 (re.ext e1) x
  | bad => rw [e] at q; exact q
theorem sD {D0 : Ends} {m : Env → M D} {f : D → Sto → RS} {K : VK} (r : Rel Γ am S H) (re : RE Γ am H ρ σ) (q : OutS Γ am H W D0 (lift (m ρ) ρ f S))
    (k : ∀ d S1 am1 H1 v, Rel Γ am1 S1 H1 → RE Γ am1 H1 ρ σ → Ext am H am1 H1 → RD Γ am1 H1 d v → OutS Γ am1 H1 W D0 (f d S1) → K v H1) : tD Γ W m σ H K :=
  ⟨am, ρ, S, r, re, (lift_out re q).mono fun d S1 am1 H1 e r1 q1 v hv => k d S1 am1 H1 v r1 (re.ext e) e hv q1⟩
theorem sDT {D0 : Ends} {m : Env → M Bool} {f : Bool → Sto → RS} {K : Bool → Hp → Prop} (r : Rel Γ am S H) (re : RE Γ am H ρ σ) (q : OutS Γ am H W D0 (lift (m ρ) ρ f S))
    (k : ∀ d S1 am1 H1, Rel Γ am1 S1 H1 → RE Γ am1 H1 ρ σ → Ext am H am1 H1 → OutS Γ am1 H1 W D0 (f d S1) → K d H1) : tDT Γ W m σ H K :=
  ⟨am, ρ, S, r, re, (lift_out re q).mono fun d S1 am1 H1 e r1 q1 => k d S1 am1 H1 r1 (re.ext e) e q1⟩
theorem sDA {D0 : Ends} {m : Env → M (List D)} {f : List D → Sto → RS} {K : List V → Hp → Prop} (r : Rel Γ am S H) (re : RE Γ am H ρ σ) (q : OutS Γ am H W D0 (lift (m ρ) ρ f S))
    (k : ∀ d S1 am1 H1 v, Rel Γ am1 S1 H1 → RE Γ am1 H1 ρ σ → Ext am H am1 H1 → RDs Γ am1 H1 d v → OutS Γ am1 H1 W D0 (f d S1) → K v H1) : tDA Γ W m σ H K :=
  ⟨am, ρ, S, r, re, (lift_out re q).mono fun d S1 am1 H1 e r1 q1 v hv => k d S1 am1 H1 v r1 (re.ext e) e hv q1⟩
/-! without a store -/
theorem st_pass : PS X (.Pass p) (tS Γ W (evS C 0 .pass)) := PSi ps_pass fun D σ H ⟨am, ρ, S, r, re, q⟩ => q am H σ (.refl _ _) r re
def noComp : Expr → Bool
  | .ListComp _ _ _ _ => false
  | .SetComp _ _ _ _ => false
  | .DictComp _ _ _ _ _ => false
  | _ => true
theorem no_swap {env : PySem.Env} {e : Expr} {o : Option Expr} {l : Nat} (h : noComp e = true) : swapsWith e o l env = pure false := by
  cases e <;> first | rfl | cases h
end
end PI

/-! statements, one by one -/
namespace PI
open PySem PySem.Spec PyProof.Rows L2
section
variable {t : Tb} {Γ : Gm} {C : Cal} {N : List Str} {sc : Scope} {X : Cx} {W : WX} {F : Nat} {a b c : E} {x y z : Expr} {p : Pos} {ba bb : Ss} {la lb : List Stmt} {sm : Sm} {st : Stmt}
theorem st_pass' : PS X (.Pass p) (tS Γ W (evS C F .pass)) := PSi ps_pass fun D σ H ⟨am, ρ, S, r, re, q⟩ => q am H σ (.refl _ _) r re
theorem st_brk : PS X (.Break p) (tS Γ W (evS C F .brk)) := PSi ps_break fun D σ H ⟨am, ρ, S, r, re, q⟩ => q am H σ (.refl _ _) r re
theorem st_cnt : PS X (.Continue p) (tS Γ W (evS C F .cnt)) := PSi ps_continue fun D σ H ⟨am, ρ, S, r, re, q⟩ => q am H σ (.refl _ _) r re
theorem st_retN : PS X (.Return none p) (tS Γ W (evS C F .retN)) := PSi ps_retN fun D σ H ⟨am, ρ, S, r, re, q⟩ => q am H σ (.refl _ _) r re .non (by unfold RD; rfl)
theorem st_never : PS X st (tS Γ W (evS C F .never)) := PSi ps_never fun D σ H ⟨am, ρ, S, r, re, q⟩ => q.elim
theorem st_nil : PSs X [] (tS Γ W (evB C F .nil)) := PSsi pss_nil fun D σ H ⟨am, ρ, S, r, re, q⟩ => q am H σ (.refl _ _) r re
theorem st_cons (h : PS X st (tS Γ W (evS C F sm))) (hb : PSs X la (tS Γ W (evB C F ba))) : PSs X (st :: la) (tS Γ W (evB C F (.cons sm ba))) := PSsi (pss_cons h hb) fun D σ H ⟨am, ρ, S, r, re, q⟩ => by
  refine ⟨am, ρ, S, r, re, ?_⟩
  have q : OutS Γ am H W D ((evS C F sm ρ S).seq fun ρ1 S1 => evB C F ba ρ1 S1) := q
  unfold RS.seq at q
  cases e : evS C F sm ρ S with
  | bad => rw [e] at q; exact q
  | exc c fs ρ1 S1 => rw [e] at q; exact q
  | ok f ρ1 S1 =>
    rw [e] at q
    cases f with
    | nx => exact fun am1 H1 σ1 e1 r1 re1 => ⟨am1, ρ1, S1, r1, re1, q.later e1⟩
    | rt d => exact q
    | bk => exact q
    | ct => exact q
theorem st_ex (ha : Snd Γ C X W a x) (hn : noComp x = true) : PS X (.Expr x p) (tS Γ W (evS C F (.ex a))) := PSi (ps_expr ha.pe (no_swap hn)) fun D σ H ⟨am, ρ, S, r, re, q⟩ =>
  sD (f := fun _ S' => .ok .nx ρ S') r re q fun d S1 am1 H1 v r1 re1 e1 hv q1 => q1 am1 H1 σ (.refl _ _) r1 re1
theorem st_ret (ha : Snd Γ C X W a x) : PS X (.Return (some x) p) (tS Γ W (evS C F (.ret a))) := PSi (ps_ret ha.pe) fun D σ H ⟨am, ρ, S, r, re, q⟩ =>
  sD (f := fun d S' => .ok (.rt d) ρ S') r re q fun d S1 am1 H1 v r1 re1 e1 hv q1 => q1 am1 H1 σ (.refl _ _) r1 re1 v hv
theorem st_ite (hc : Snd Γ C X W c z) (ha : PSs X la (tS Γ W (evB C F ba))) (hb : PSs X lb (tS Γ W (evB C F bb))) : PS X (.If z la lb p) (tS Γ W (evS C F (.ite c ba bb))) := PSi (ps_if hc.pt ha hb) fun D σ H ⟨am, ρ, S, r, re, q⟩ =>
  sDT (m := fun ρ => (ev C c ρ).bind truM) (f := fun k S' => if k then evB C F ba ρ S' else evB C F bb ρ S') r re q fun k S1 am1 H1 r1 re1 e1 q1 => by
    cases k with
    | true => exact ⟨am1, ρ, S1, r1, re1, q1⟩
    | false => exact ⟨am1, ρ, S1, r1, re1, q1⟩
theorem st_set (G : Good t Γ C N sc X) {i : Nat} {n : Str} {p1 : Pos} {fs : Str → Bool} (hf : ∀ x, fs x = true → X.fn x = true) (hi : N[i]? = some n) (hs : storeB sc fs n = true) (ha : Snd Γ C X W a x) (hsw : swapsWith x (some (.Name n p1)) p.line X.env = pure false) :
    PS X (.Assign [.Name n p1] x p) (tS Γ W (evS C F (.set i a))) := by
  obtain ⟨k1, k2⟩ := store_of G hf hs
  exact PSi (ps_set G.nd (by rw [G.hN]; exact hi) k1 ha.pe hsw k2) fun D σ H ⟨am, ρ, S, r, re, q⟩ =>
    sD (f := fun d S' => .ok .nx (ρ.set i (some d)) S') r re q fun d S1 am1 H1 v r1 re1 e1 hv q1 => q1 am1 H1 _ (.refl _ _) r1 (re1.set hv)
theorem ckComp_d (G : Good t Γ C N sc X) (tk : Takes X W) {fz : Bool} {own : List Nat} {elt : E} {tg : T} {it : I} {ifs : Es} {e : Expr} (h : ckE t N sc (.comp fz own elt tg it ifs) e = true) : ∃ eltE tgE itE ifsE scope pos, fz = true ∧ e = .ListComp eltE [⟨tgE, itE, ifsE, 0⟩] scope pos ∧
    BlkOk X.N X.env.scope scope (ownP N own) ∧ (ownP N own).map (·.2) = own ∧ (∀ i ∈ tg.ix, i ∈ own) ∧ PI X tgE itE (tDI Γ W (evI C it)) ∧ (∀ (s : Shared) (H : Hp) (C' : Addr) (cl : List (Str × Addr)) (fp : List Addr), PG (X.blk s H scope (compEnvC scope cl C' X.env) fp) tgE (gT X tg)) ∧
    (∀ (l : List Addr) (s : Shared) (H : Hp) (C' : Addr) (cl : List (Str × Addr)) (fp : List Addr), PTs (X.blk s H scope (compEnvC scope cl C' X.env) fp) ifsE (tDT (Γ.h l) W0 (fun ρ => evT C ifs ρ))) ∧
    (∀ (l : List Addr) (s : Shared) (H : Hp) (C' : Addr) (cl : List (Str × Addr)) (fp : List Addr), PE (X.blk s H scope (compEnvC scope cl C' X.env) fp) eltE (tD (Γ.h l) W0 (ev C elt))) ∧ noSet itE = true := by
  unfold ckE at h
  split at h
  · rename_i eltE tgE itE ifsE asy scope p
    simp only [Bool.and_eq_true, decide_eq_true_eq, List.all_eq_true] at h
    obtain ⟨⟨⟨⟨⟨⟨⟨⟨⟨rfl, rfl⟩, h1⟩, h2⟩, h3⟩, h4⟩, h5⟩, h6⟩, h7⟩, h8⟩ := h
    exact ⟨eltE, tgE, itE, ifsE, scope, p, rfl, rfl, by rw [G.hN, G.hsc]; exact blkOk_by h1, h2, h3, ckI_ok G tk h4,
      fun s H C' cl fp => tgB_ok (G.blk Γ.hid s H C' cl fp) (fun x h => h) h6,
      fun l s H C' cl fp => ckT_ok (G.blk l s H C' cl fp) LamX.takes0 h7,
      fun l s H C' cl fp => (ckE_ok (G.blk l s H C' cl fp) LamX.takes0 h8).pe, h5⟩
  · cases h
theorem st_setC (G : Good t Γ C N sc X) (tk : Takes X W) {i : Nat} {n : Str} {p1 : Pos} (hi : N[i]? = some n) (hl : sc.names.lookup n = some .local) {fz : Bool} {own : List Nat} {elt : E} {tg : T} {it : I} {ifs : Es} (h : ckE t N sc (.comp fz own elt tg it ifs) x = true)
    (hsw : swapsWith x (some (.Name n p1)) p.line X.env = pure true) : PS X (.Assign [.Name n p1] x p) (tS Γ W (evS C F (.set i (.comp fz own elt tg it ifs)))) := by
  obtain ⟨eltE, tgE, itE, ifsE, scope, pos, rfl, rfl, h1, h2, h3, h4, h5, h6, h7, h8⟩ := ckComp_d G tk h
  refine PSi (ps_setLc (te := tE Γ (ev C elt)) (tt := tT Γ (fun ρ => evT C ifs ρ)) G.calm G.nd (by rw [G.hN]; exact hi) (by rw [G.hsc]; exact hl) hsw h4 h1 h5 (fun s H C' cl fp => tt_of fun l => h6 l s H C' cl fp) (fun s H C' cl fp => te_of fun l => h7 l s H C' cl fp) (no_fold h8)) fun D σ H ⟨am, ρ, S, r, re, q⟩ => ?_
  rw [h2]
  exact comp_lc G.hK h3 (sD (f := fun d S' => .ok .nx (ρ.set i (some d)) S') r re q fun d S1 am1 H1 v r1 re1 e1 hv q1 => q1 am1 H1 _ (.refl _ _) r1 (re1.set hv))
/-! several names at once -/
def noTup : Expr → Bool
  | .Tuple _ _ _ => false
  | _ => true
theorem sw_not {tg e : Expr} {env : PySem.Env} (h : noTup e = true) : swappedStores [tg] e env = pure none := by
  cases e <;> first | (cases h; done) | (unfold swappedStores; cases tg <;> rfl)
theorem swt_false {tg e : Expr} {l : Nat} {env : PySem.Env} (h : (match tg with | .Name _ _ => false | _ => true) = true) : swapsWithSole [tg] e l env = pure false := by
  show swapsWith e (some tg) l env = pure false
  unfold swapsWith
  cases tg <;> first | (cases h; done) | (cases e <;> rfl)
def swS (bk : ScopeKind) (kd : Str → Option NameKind) (ts vs : List Expr) : Option (Option (List Str)) :=
  if !(ts.length == 2 || ts.length == 3) || vs.length != ts.length || bk != .function then some none
  else if vs.any fun | .Starred .. => true | _ => false then some none
  else
    let line := (ts.head?.map (·.pos.line)).getD 0
    let names := ts.filterMap fun
      | .Name id pos => if kd id == some .local && pos.line == line then some id else none
      | _ => none
    if names.length != ts.length || names.eraseDups.length != names.length then some none
    else if vs.all (foldedForSure 8) then some none
    else if vs.all (constantsAlone 8) then none
    else some (some names)
theorem sw_eq {sc : Scope} {env : PySem.Env} {ts vs : List Expr} {k k2 : Nat} {p p2 : Pos} {r : Option (List Str)} (he : env.scope = sc) (h : swS (blockK sc) (fun x => sc.names.lookup x) ts vs = some r) : swappedStores [.Tuple ts k p] (.Tuple vs k2 p2) env = pure r := by
  have h : swS env.blockKind env.kindOf ts vs = some r := by
    subst he
    exact h
  unfold swS at h
  unfold swappedStores
  simp only [pure_bind]
  by_cases c1 : (!(ts.length == 2 || ts.length == 3) || vs.length != ts.length || env.blockKind != .function) = true
  · rw [if_pos c1] at h ⊢
    cases h
    rfl
  · rw [if_neg c1] at h ⊢
    simp only [pure_bind] at h ⊢
    split at h
    · rename_i c2
      refine (if_pos c2).trans ?_
      cases h
      rfl
    · rename_i c2
      refine (if_neg c2).trans ?_
      split at h
      · rename_i c3
        refine (if_pos c3).trans ?_
        cases h
        rfl
      · rename_i c3
        refine (if_neg c3).trans ?_
        split at h
        · rename_i c4
          refine (if_pos c4).trans ?_
          cases h
          rfl
        · rename_i c4
          refine (if_neg c4).trans ?_
          split at h
          · cases h
          · rename_i c5
            refine (if_neg c5).trans ?_
            cases h
            rfl
theorem st_asg (G : Good t Γ C N sc X) {fs : Str → Bool} (hf : ∀ x, fs x = true → X.fn x = true) {tg : T} {tgE : Expr} (hg : tgB N sc fs tg tgE = true) (ha : Snd Γ C X W a x) (hs : swapsWithSole [tgE] x p.line X.env = pure false) (hw : swappedStores [tgE] x X.env = pure none) (h1 : (assignEach [tgE] X.env).map (·.2) = [assign tgE X.env]) :
    PS X (.Assign [tgE] x p) (tS Γ W (evS C F (.asg tg a))) := PSi (ps_asg ha.pe (tgB_ok G hf hg) hs hw h1) fun D σ H ⟨am, ρ, S, r, re, q⟩ =>
  sD (f := fun d S' => match asgT tg d ρ with | some ρ1 => .ok .nx ρ1 S' | none => .bad) r re q fun d S1 am1 H1 v r1 re1 e1 hv q1 => by
    cases e : asgT tg d ρ with
    | none => rw [e] at q1; exact q1.elim
    | some ρ1 =>
      rw [e] at q1
      exact gT_run G.hK re1 hv e fun σ' re' _ => q1 am1 H1 σ' (.refl _ _) r1 re'
theorem st_par2 (G : Good t Γ C N sc X) {i j : Nat} {n m : Str} {pn pm pt p2 : Pos} {kt k2 : Nat} {es : Es} (hi : N[i]? = some n) (hj : N[j]? = some m) (hij : i ≠ j) (hn : sc.names.lookup n = some .local) (hm : sc.names.lookup m = some .local) (ha : PA X [x, y] (tDA Γ W (evs C es)))
    (hw : swappedStores [.Tuple [.Name n pn, .Name m pm] kt pt] (.Tuple [x, y] k2 p2) X.env = pure (some [n, m])) :
    PS X (.Assign [.Tuple [.Name n pn, .Name m pm] kt pt] (.Tuple [x, y] k2 p2) p) (tS Γ W (evS C F (.asg (.tp [i, j]) (.tup es)))) :=
  PSi (ps_par G.calm G.nd (by rw [G.hN]; exact hi) (by rw [G.hN]; exact hj) hij (by rw [G.hsc]; exact hn) (by rw [G.hsc]; exact hm) ha hw (swt_false rfl)) fun D σ H ⟨am, ρ, S, r, re, q⟩ => by
    have q' : OutS Γ am H W D (lift (evs C es ρ) ρ (fun ds S' => match asgT (.tp [i, j]) (.tup ds) ρ with | some ρ1 => .ok .nx ρ1 S' | none => .bad) S) := by
      have q0 : OutS Γ am H W D (lift ((evs C es ρ).bind fun ds => if ds.length ≤ lim then M.ret (PI.D.tup ds) else M.fail) ρ (fun d S' => match asgT (.tp [i, j]) d ρ with | some ρ1 => .ok .nx ρ1 S' | none => .bad) S) := q
      unfold lift M.bind at q0
      unfold lift
      cases e : evs C es ρ S with
      | ok ds S1 =>
        rw [e] at q0
        dsimp only at q0 ⊢
        split at q0
        · rename_i d S2 e2
          split at e2
          · cases e2
            exact q0
          · cases e2
        · rename_i e2
          split at e2 <;> cases e2
        · exact q0.elim
      | exc c fs S1 => rw [e] at q0; exact q0
      | bad => rw [e] at q0; exact q0
    refine sDA (f := fun ds S' => match asgT (.tp [i, j]) (.tup ds) ρ with | some ρ1 => .ok .nx ρ1 S' | none => .bad) r re q' fun ds S1 am1 H1 vs r1 re1 e1 hv q1 => ?_
    match ds, hv, q1 with
    | [d, e], hv, q1 =>
      unfold RDs at hv
      obtain ⟨v, us, rfl, h1, hv⟩ := hv
      unfold RDs at hv
      obtain ⟨u, ws, rfl, h2, hv⟩ := hv
      unfold RDs at hv
      subst hv
      exact ⟨v, u, rfl, q1 am1 H1 _ (.refl _ _) r1 ((re1.set h1).set h2)⟩
    | [], hv, q1 => exact q1.elim
    | [d], hv, q1 => exact q1.elim
    | _ :: _ :: _ :: _, hv, q1 => exact q1.elim
theorem st_seti (G : Good t Γ C N sc X) {p1 : Pos} (ho : Snd Γ C X W a x) (hi : Snd Γ C X W b y) (hv : Snd Γ C X W c z) (hsl : noSlice y = true) : PS X (.Assign [.Subscript x y p1] z p) (tS Γ W (evS C F (.seti a b c))) := by
  have hgs : PG X (.Subscript x y p1) (gSub (tD Γ W (ev C a)) (tD Γ W (ev C b)) (rSet Γ)) := pg_sub ho.pe hi.pe (set_ok (X := X) (Γ := Γ)) (by cases y <;> first | (intro _; rfl) | cases hsl)
  refine PSi (ps_asg hv.pe hgs (swt_false rfl) (by unfold swappedStores; cases z <;> rfl) (by cases y <;> first | rfl | cases hsl)) fun D σ H ⟨am, ρ, S, r, re, q⟩ => ?_
  have q : OutS Γ am H W D (lift ((ev C c ρ).bind fun v => (ev C a ρ).bind fun x => (ev C b ρ).bind fun y => setop x y v) ρ (fun _ S' => .ok .nx ρ S') S) := q
  refine tD.bind (f := fun ρ v => (ev C a ρ).bind fun x => (ev C b ρ).bind fun y => setop x y v) r re (lift_out re q) fun d S1 am1 H1 v r1 re1 e1 hv q1 => ?_
  refine tD.bind (f := fun ρ x => (ev C b ρ).bind fun y => setop x y d) r1 re1 q1 fun o S2 am2 H2 ov r2 re2 e2 ho q2 => ?_
  refine tD.bind (f := fun ρ y => setop o y d) r2 re2 q2 fun i S3 am3 H3 iv r3 re3 e3 hi q3 => ?_
  exact ⟨wo W σ, am3, S3, o, i, d, r3, ho.ext e3, hi, (hv.ext e2).ext e3, q3.mono fun _ S4 am4 H4 e4 r4 q4 => q4 am4 H4 σ (.refl _ _) r4 (re3.ext e4)⟩
theorem iop_mulX : OpR X (inplaceOp .Mult) (rI mulX fun i j => .int (i * j)) := opI fun _ _ _ _ _ _ _ hc q => imul_int q (mulX_ok hc)
def rA (Γ : Gm) (op : BOp) : TIp := fun x y H Q => ∃ (W : WO) (am : List Addr) (S : Sto) (d e : D), Rel Γ am S H ∧ RD Γ am H d x ∧ RD Γ am H e y ∧ Out Γ am H W (KV Γ Q) (augop op d e S)
theorem aug_ok (op : BOp) : PIp X op.opr (rA Γ op) := by
  intro pins s σ H x y v u Q I rx ry h
  obtain ⟨W, am, S, d, e, r, hd, he, q⟩ := h
  unfold augop at q
  split at q
  · exact q.elim
  · rename_i i j hp
    have hx := hd.intv
    have hy := he.intv
    subst hx hy
    cases op with
    | pow => exact (hp rfl).elim
    | add => exact iop_add pins s σ H _ _ v u Q I rx ry ⟨_, _, rfl, rfl, out_int r q⟩
    | sub => exact iop_sub pins s σ H _ _ v u Q I rx ry ⟨_, _, rfl, rfl, out_int r q⟩
    | mul =>
      unfold binop deref at q
      dsimp only at q
      split at q
      · rename_i hc
        exact iop_mulX pins s σ H _ _ v u Q I rx ry ⟨_, _, rfl, rfl, hc, out_int r q⟩
      · exact q.elim
    | fdiv =>
      unfold binop deref at q
      dsimp only at q
      split at q
      · rename_i hc
        exact iop_fdivW pins s σ H _ _ v u Q I rx ry ⟨_, _, rfl, rfl, hc, out_int r q⟩
      · exact q.elim
    | mod =>
      unfold binop deref at q
      dsimp only at q
      split at q
      · rename_i hc
        exact iop_mod pins s σ H _ _ v u Q I rx ry ⟨_, _, rfl, rfl, hc, out_int r q⟩
      · exact q.elim
    | shl =>
      unfold binop deref at q
      dsimp only at q
      split at q
      · rename_i hc
        exact iop_shlW pins s σ H _ _ v u Q I rx ry ⟨_, _, rfl, rfl, bits_shl hc.1 hc.2.1 hc.2.2, out_int r q⟩
      · exact q.elim
    | shr =>
      unfold binop deref at q
      dsimp only at q
      split at q
      · rename_i hc
        exact iop_shr pins s σ H _ _ v u Q I rx ry ⟨_, _, rfl, rfl, hc, out_int r q⟩
      · exact q.elim
    | band => exact iop_and pins s σ H _ _ v u Q I rx ry ⟨_, _, rfl, rfl, out_int r q⟩
    | bor => exact iop_or pins s σ H _ _ v u Q I rx ry ⟨_, _, rfl, rfl, out_int r q⟩
    | bxor => exact iop_xor pins s σ H _ _ v u Q I rx ry ⟨_, _, rfl, rfl, out_int r q⟩
  · exact q.elim
theorem st_aug (G : Good t Γ C N sc X) {op : BOp} {i : Nat} {n : Str} {p1 : Pos} {fs : Str → Bool} (hf : ∀ x, fs x = true → X.fn x = true) (hi : N[i]? = some n) (hs : storeB sc fs n = true) (ha : Snd Γ C X W a x) :
    PS X (.AugAssign (.Name n p1) op.opr x p) (tS Γ W (evS C F (.aug i op a))) := by
  obtain ⟨k1, k2⟩ := store_of G hf hs
  refine PSi (ps_aug G.nd (by rw [G.hN]; exact hi) k1 ha.pe (aug_ok (Γ := Γ) op) k2) fun D σ H ⟨am, ρ, S, r, re, q⟩ => ?_
  have q : OutS Γ am H W D (lift ((M.opt (ρ[i]?.join)).bind fun x => (ev C a ρ).bind fun y => augop op x y) ρ (fun d S' => .ok .nx (ρ.set i (some d)) S') S) := q
  obtain ⟨d, h1, q1⟩ := opt_out (lift_out re q)
  have h1 : ρ[i]? = some (some d) := by
    cases e : ρ[i]? with
    | none => rw [e] at h1; cases h1
    | some o => rw [e] at h1; rw [show o = some d from h1]
  obtain ⟨v, h2, h3⟩ := re.2 i d h1
  refine ⟨v, h2, tD.bind (f := fun ρ y => augop op d y) r re q1 fun e S1 am1 H1 u r1 re1 e1 hu q2 => ?_⟩
  exact ⟨wo W σ, am1, S1, d, e, r1, h3.ext e1, hu, q2.mono fun g S2 am2 H2 e2 r2 q3 w hw => q3 am2 H2 _ (.refl _ _) r2 ((re1.ext e2).set hw)⟩
/-! loops -/
theorem st_whl (hp : PassesOwn (model X.prog X.w) X.A X.env X.xe) (hc : Snd Γ C X W c z) (hb : PSs X la (tS Γ W (evB C F ba))) : PS X (.While z la [] p) (tS Γ W (evS C F (.whl c ba))) := PSi (ps_while hp hc.pt hb) fun D σ H ⟨am, ρ, S, r, re, q⟩ => by
  refine ⟨fun m σ H => ∃ am ρ S, Rel Γ am S H ∧ RE Γ am H ρ σ ∧ OutS Γ am H W D (whlN (fun ρ => (ev C c ρ).bind truM) (fun ρ S => evB C F ba ρ S) m ρ S), ⟨F, am, ρ, S, r, re, q⟩, fun m σ H ⟨am, ρ, S, r, re, q⟩ => ?_⟩
  cases m with
  | zero => exact q.elim
  | succ m =>
    unfold whlN at q
    refine sDT (m := fun ρ => (ev C c ρ).bind truM) (f := fun b S1 => if b then (match evB C F ba ρ S1 with
      | .ok .nx ρ2 S2 => whlN (fun ρ => (ev C c ρ).bind truM) (fun ρ S => evB C F ba ρ S) m ρ2 S2
      | .ok .ct ρ2 S2 => whlN (fun ρ => (ev C c ρ).bind truM) (fun ρ S => evB C F ba ρ S) m ρ2 S2
      | .ok .bk ρ2 S2 => .ok .nx ρ2 S2
      | r => r) else .ok .nx ρ S1) r re q fun k S1 am1 H1 r1 re1 e1 q1 => ?_
    cases k with
    | false =>
      rw [if_neg Bool.false_ne_true] at q1 ⊢
      exact q1 am1 H1 σ (.refl _ _) r1 re1
    | true =>
      rw [if_pos rfl] at q1 ⊢
      refine ⟨fun σ' H' => ∃ am ρ S, Rel Γ am S H' ∧ RE Γ am H' ρ σ' ∧ OutS Γ am H' W D (whlN (fun ρ => (ev C c ρ).bind truM) (fun ρ S => evB C F ba ρ S) m ρ S), fun σ' H' h => ⟨m, Nat.lt_succ_self m, h⟩, am1, ρ, S1, r1, re1, ?_⟩
      cases e : evB C F ba ρ S1 with
      | bad => rw [e] at q1; exact q1
      | exc c fs ρ2 S2 => rw [e] at q1; exact q1
      | ok f ρ2 S2 =>
        rw [e] at q1
        cases f with
        | nx => exact fun am2 H2 σ2 e2 r2 re2 => ⟨am2, ρ2, S2, r2, re2, q1.later e2⟩
        | ct => exact fun am2 H2 σ2 e2 r2 re2 => ⟨am2, ρ2, S2, r2, re2, q1.later e2⟩
        | bk => exact q1
        | rt d => exact q1
theorem st_for (G : Good t Γ C N sc X) (hp : PassesOwn (model X.prog X.w) X.A X.env X.xe) {fs : Str → Bool} (hf : ∀ x, fs x = true → X.fn x = true) {tg : T} {it : I} {tgE itE : Expr} (hg : tgB N sc fs tg tgE = true) (hi : PI X tgE itE (tDI Γ W (evI C it))) (hs : noSet itE = true)
    (hb : PSs X la (tS Γ W (evB C F ba))) : PS X (.For tgE itE la [] p) (tS Γ W (evS C F (.for tg it ba))) := PSi (ps_for hp G.calm hi (tgB_ok G hf hg) hb (no_fold hs)) fun D σ H ⟨am, ρ, S, r, re, q⟩ => by
  refine ⟨am, ρ, S, r, re, (lift_out re q).mono fun xs S1 am1 H1 e1 r1 q1 J hJ => ?_⟩
  refine ⟨fun i m σ H' => m + i = xs.length ∧ ∃ am' ρ' S', Ext am1 H1 am' H' ∧ Rel Γ am' S' H' ∧ RE Γ am' H' ρ' σ ∧ OutS Γ am' H' W D (forL tg (fun ρ S => evB C F ba ρ S) (xs.drop i) ρ' S'), ⟨xs.length, rfl, am1, ρ, S1, .refl _ _, r1, re.ext e1, q1⟩, fun i m σ H' hI => ?_⟩
  obtain ⟨hm, am', ρ', S', e', r', re', q'⟩ := hI
  obtain ⟨jg, js⟩ := hJ Γ.hid am' S' H' ⟨fun _ _ h => h, fun a o h f => ⟨h, f.2⟩⟩ e' r'
  by_cases hend : i = xs.length
  · left
    subst hend
    rw [List.drop_length] at q'
    exact ⟨js, q' am' H' σ (.refl _ _) r' re'⟩
  · right
    have hlt : i < xs.length := by omega
    have hx : xs[i]? = some (xs[i]'hlt) := List.getElem?_eq_getElem hlt
    generalize hd : xs[i]'hlt = d at hx
    obtain ⟨jgo, jy⟩ := jg i d hx
    have hdrop : xs.drop i = d :: xs.drop (i + 1) := by rw [List.drop_eq_getElem_cons hlt, hd]
    rw [hdrop] at q'
    refine ⟨jgo, fun σ' H'' => ∃ m', m' < m ∧ (m' + (i + 1) = xs.length ∧ ∃ am' ρ' S', Ext am1 H1 am' H'' ∧ Rel Γ am' S' H'' ∧ RE Γ am' H'' ρ' σ' ∧ OutS Γ am' H'' W D (forL tg (fun ρ S => evB C F ba ρ S) (xs.drop (i + 1)) ρ' S')), fun σ' H'' h => h, fun x H2 hy => ?_⟩
    obtain ⟨f1, f2, f3⟩ := jy x H2 hy
    unfold forL at q'
    cases has : asgT tg d ρ' with
    | none => rw [has] at q'; exact q'.elim
    | some ρ1 =>
      rw [has] at q'
      refine gT_run G.hK (re'.ext f1) f3 has fun σ2 re2 _ => ⟨am', ρ1, S', f2, re2, ?_⟩
      dsimp only at q'
      have q' := q'.later f1
      cases e : evB C F ba ρ1 S' with
      | bad => rw [e] at q'; exact q'
      | exc c fs ρ2 S2 => rw [e] at q'; exact q'
      | ok f ρ2 S2 =>
        rw [e] at q'
        cases f with
        | nx => exact fun am2 H3 σ3 e2 r2 re3 => ⟨m - 1, by omega, by omega, am2, ρ2, S2, (e'.trans f1).trans e2, r2, re3, q'.later e2⟩
        | ct => exact fun am2 H3 σ3 e2 r2 re3 => ⟨m - 1, by omega, by omega, am2, ρ2, S2, (e'.trans f1).trans e2, r2, re3, q'.later e2⟩
        | bk => exact q'
        | rt d => exact q'
end
end PI

/-! the check of statements -/
namespace PI
open PySem PySem.Spec PyProof.Rows L2
def parB (N : List Str) (sc : Scope) (is : List Nat) (ts vs : List Expr) : Bool := match is, ts, vs with
  | [i, j], [.Name n _, .Name m _], [_, _] => decide (N[i]? = some n) && decide (N[j]? = some m) && decide (i ≠ j) && decide (sc.names.lookup n = some .local) && decide (sc.names.lookup m = some .local) && decide (swS (blockK sc) (fun x => sc.names.lookup x) ts vs = some (some [n, m]))
  | _, _, _ => false
def isComp : E → Bool
  | .comp _ _ _ _ _ _ => true
  | _ => false
mutual
def ckM (t : Tb) (N : List Str) (sc : Scope) (fs : Str → Bool) : Sm → Stmt → Bool
  | .pass, s => (match s with | .Pass _ => true | _ => false)
  | .brk, s => (match s with | .Break _ => true | _ => false)
  | .cnt, s => (match s with | .Continue _ => true | _ => false)
  | .never, _ => true
  | .set i e, s => (match s with
    | .Assign [.Name n p1] x _ => decide (N[i]? = some n) && ckE t N sc e x && (match x with
      | .ListComp _ _ scope pos => (if swB sc scope n p1 pos then decide (sc.names.lookup n = some .local) && isComp e else storeB sc fs n)
      | x => noComp x && storeB sc fs n)
    | _ => false)
  | .asg tg e, s => (match s with
    | .Assign [.Tuple ts _ _] x _ => (match x with
      | .Tuple vs _ _ => (match swS (blockK sc) (fun x => sc.names.lookup x) ts vs with
        | some none => (match tg with | .tp is => tgL N sc fs is ts | _ => false) && ckE t N sc e x
        | some (some _) => (match tg, e with
          | .tp is, .tup es => parB N sc is ts vs && ckS t N sc es vs
          | _, _ => false)
        | none => false)
      | x => (match tg with | .tp is => tgL N sc fs is ts | _ => false) && noTup x && ckE t N sc e x)
    | _ => false)
  | .aug i op e, s => (match s with
    | .AugAssign (.Name n _) o x _ => decide (N[i]? = some n) && storeB sc fs n && decide (o = op.opr) && ckE t N sc e x
    | _ => false)
  | .seti o i e, s => (match s with
    | .Assign [.Subscript x y _] z _ => noSlice y && ckE t N sc o x && ckE t N sc i y && ckE t N sc e z
    | _ => false)
  | .ex e, s => (match s with | .Expr x _ => noComp x && ckE t N sc e x | _ => false)
  | .ret e, s => (match s with | .Return (some x) _ => ckE t N sc e x | _ => false)
  | .retN, s => (match s with | .Return none _ => true | _ => false)
  | .ite c a b, s => (match s with | .If z la lb _ => ckE t N sc c z && ckB t N sc fs a la && ckB t N sc fs b lb | _ => false)
  | .whl c b, s => (match s with | .While z la [] _ => ckE t N sc c z && ckB t N sc fs b la | _ => false)
  | .for tg it b, s => (match s with | .For tgE itE la [] _ => tgB N sc fs tg tgE && ckI t N sc it tgE itE && noSet itE && ckB t N sc fs b la | _ => false)
def ckB (t : Tb) (N : List Str) (sc : Scope) (fs : Str → Bool) : Ss → List Stmt → Bool
  | .nil, l => (match l with | [] => true | _ => false)
  | .cons s b, l => (match l with | st :: l => ckM t N sc fs s st && ckB t N sc fs b l | _ => false)
end
section
variable {t : Tb} {Γ : Gm} {C : Cal} {N : List Str} {sc : Scope} {X : Cx} {W : WX} {F : Nat} {fs : Str → Bool}
mutual
theorem ckM_ok (G : Good t Γ C N sc X) (tk : Takes X W) (hp : PassesOwn (model X.prog X.w) X.A X.env X.xe) (hf : ∀ x, fs x = true → X.fn x = true) : ∀ {sm : Sm} {st : Stmt}, ckM t N sc fs sm st = true → PS X st (tS Γ W (evS C F sm))
  | .pass, st, h => by
    unfold ckM at h
    split at h
    · exact st_pass'
    · cases h
  | .brk, st, h => by
    unfold ckM at h
    split at h
    · exact st_brk
    · cases h
  | .cnt, st, h => by
    unfold ckM at h
    split at h
    · exact st_cnt
    · cases h
  | .never, st, h => st_never
  | .set i e, st, h => by
    unfold ckM at h
    split at h
    · rename_i n p1 x p
      obtain ⟨h1, h2⟩ := and2 h
      obtain ⟨h3, h4⟩ := and2 h1
      split at h2
      · rename_i elt gs scope pos
        split at h2
        · rename_i hsw
          obtain ⟨h5, h6⟩ := and2 h2
          cases e <;> first | (cases h6; done) | skip
          exact st_setC G tk (of_decide_eq_true h3) (of_decide_eq_true h5) h4 (by rw [sw_lc G.hsc, hsw])
        · rename_i hsw
          exact st_set G hf (of_decide_eq_true h3) h2 (ckE_ok G tk h4) (by rw [sw_lc G.hsc, Bool.eq_false_iff.mpr hsw])
      · obtain ⟨h5, h6⟩ := and2 h2
        exact st_set G hf (of_decide_eq_true h3) h6 (ckE_ok G tk h4) (no_swap h5)
    · cases h
  | .asg tg e, st, h => by
    unfold ckM at h
    split at h
    · rename_i ts kt pt x p
      split at h
      · rename_i vs k2 p2
        split at h
        · rename_i hw
          obtain ⟨h1, h2⟩ := and2 h
          cases tg with
          | nm i => cases h1
          | tp is => exact st_asg G hf (show tgB N sc fs (.tp is) (.Tuple ts kt pt) = true from h1) (ckE_ok G tk h2) (swt_false rfl) (sw_eq G.hsc hw) rfl
        · rename_i r hw
          cases tg with
          | nm i => cases h
          | tp is =>
            cases e <;> first | (cases h; done) | skip
            rename_i es
            obtain ⟨h1, h2⟩ := and2 h
            unfold parB at h1
            split at h1
            · simp only [Bool.and_eq_true, decide_eq_true_eq] at h1
              obtain ⟨⟨⟨⟨⟨k1, k2⟩, k3⟩, k4⟩, k5⟩, k6⟩ := h1
              exact st_par2 G k1 k2 k3 k4 k5 (ckS_ok G tk h2) (sw_eq G.hsc k6)
            · cases h1
        · cases h
      · rename_i x' hx
        obtain ⟨h1, h3⟩ := and2 h
        obtain ⟨h1, h2⟩ := and2 h1
        cases tg with
        | nm i => cases h1
        | tp is => exact st_asg G hf (show tgB N sc fs (.tp is) (.Tuple ts kt pt) = true from h1) (ckE_ok G tk h3) (swt_false rfl) (sw_not h2) rfl
    · cases h
  | .aug i op e, st, h => by
    unfold ckM at h
    split at h
    · simp only [Bool.and_eq_true, decide_eq_true_eq] at h
      obtain ⟨⟨⟨h1, h2⟩, rfl⟩, h3⟩ := h
      exact st_aug G hf h1 h2 (ckE_ok G tk h3)
    · cases h
  | .seti o i e, st, h => by
    unfold ckM at h
    split at h
    · simp only [Bool.and_eq_true] at h
      exact st_seti G (ckE_ok G tk h.1.1.2) (ckE_ok G tk h.1.2) (ckE_ok G tk h.2) h.1.1.1
    · cases h
  | .ex e, st, h => by
    unfold ckM at h
    split at h
    · obtain ⟨h1, h2⟩ := and2 h
      exact st_ex (ckE_ok G tk h2) h1
    · cases h
  | .ret e, st, h => by
    unfold ckM at h
    split at h
    · exact st_ret (ckE_ok G tk h)
    · cases h
  | .retN, st, h => by
    unfold ckM at h
    split at h
    · exact st_retN
    · cases h
  | .ite c a b, st, h => by
    unfold ckM at h
    split at h
    · simp only [Bool.and_eq_true] at h
      exact st_ite (ckE_ok G tk h.1.1) (ckB_ok G tk hp hf h.1.2) (ckB_ok G tk hp hf h.2)
    · cases h
  | .whl c b, st, h => by
    unfold ckM at h
    split at h
    · simp only [Bool.and_eq_true] at h
      exact st_whl hp (ckE_ok G tk h.1) (ckB_ok G tk hp hf h.2)
    · cases h
  | .for tg it b, st, h => by
    unfold ckM at h
    split at h
    · simp only [Bool.and_eq_true] at h
      obtain ⟨⟨⟨h1, h2⟩, h3⟩, h4⟩ := h
      exact st_for G hp hf h1 (ckI_ok G tk h2) h3 (ckB_ok G tk hp hf h4)
    · cases h
theorem ckB_ok (G : Good t Γ C N sc X) (tk : Takes X W) (hp : PassesOwn (model X.prog X.w) X.A X.env X.xe) (hf : ∀ x, fs x = true → X.fn x = true) : ∀ {b : Ss} {l : List Stmt}, ckB t N sc fs b l = true → PSs X l (tS Γ W (evB C F b))
  | .nil, l, h => by
    unfold ckB at h
    split at h
    · exact st_nil
    · cases h
  | .cons s b, l, h => by
    unfold ckB at h
    split at h
    · obtain ⟨h1, h2⟩ := and2 h
      exact st_cons (ckM_ok G tk hp hf h1) (ckB_ok G tk hp hf h2)
    · cases h
end
end
end PI

/-! defs -/
namespace PI
open PySem PySem.Spec PyProof.Rows L2
/-! arguments in order, of any kind -/
theorem mapM_rel {α β : Type} {R : α → β → Prop} {f : Nat → Option α} {g : Nat → Option β} (h : ∀ i a, f i = some a → ∃ b, g i = some b ∧ R a b) : ∀ {l : List Nat} {as : List α}, l.mapM f = some as → ∃ bs, l.mapM g = some bs ∧ bs.length = as.length ∧ ∀ (i : Nat) a, as[i]? = some a → ∃ b, bs[i]? = some b ∧ R a b
  | [], as, e => by
    simp at e
    subst e
    exact ⟨[], by simp, rfl, fun i a e => by simp at e⟩
  | x :: l, as, e => by
    rw [List.mapM_cons] at e
    cases e1 : f x with
    | none => rw [e1] at e; cases e
    | some a =>
      rw [e1] at e
      cases e2 : l.mapM f with
      | none => rw [e2] at e; cases e
      | some as' =>
        rw [e2] at e
        cases e
        obtain ⟨b, h1, h2⟩ := h x a e1
        obtain ⟨bs, h3, h4, h5⟩ := mapM_rel h e2
        refine ⟨b :: bs, by rw [List.mapM_cons, h1, h3]; rfl, by simp [h4], fun i z hz => ?_⟩
        cases i with
        | zero =>
          simp at hz
          subst hz
          exact ⟨b, rfl, h2⟩
        | succ i => exact h5 i z (by simpa using hz)
theorem arr_rel {α β : Type} {R : α → β → Prop} {np n : Nat} {ks : List Nat} {dfl ds : List α} {dfl' es : List β} (hd : dfl'.length = dfl.length) (h1 : ∀ (i : Nat) a, dfl[i]? = some a → ∃ b, dfl'[i]? = some b ∧ R a b) (h2 : ∀ (i : Nat) a, ds[i]? = some a → ∃ b, es[i]? = some b ∧ R a b) {as : List α} (e : arr np dfl n ks ds = some as) :
    ∃ bs, arr np dfl' n ks es = some bs ∧ bs.length = as.length ∧ ∀ (i : Nat) a, as[i]? = some a → ∃ b, bs[i]? = some b ∧ R a b := by
  refine mapM_rel (fun i a e => ?_) e
  unfold argAt at e ⊢
  rw [hd]
  split at e
  · rename_i c
    rw [if_pos c]
    exact h2 i a e
  · rename_i c
    rw [if_neg c]
    split at e
    · rename_i j hj
      exact h2 _ a e
    · split at e
      · rename_i c2
        rw [if_pos c2]
        exact h1 _ a e
      · cases e
theorem arr_len {α : Type} {np n : Nat} {ks : List Nat} {dfl ds as : List α} (e : arr np dfl n ks ds = some as) : as.length = np := by
  have : ∀ {l : List Nat} {as : List α}, l.mapM (argAt np dfl n ks ds) = some as → as.length = l.length := by
    intro l
    induction l with
    | nil => intro as e; simp at e; subst e; rfl
    | cons x l ih =>
      intro as e
      rw [List.mapM_cons] at e
      cases e1 : argAt np dfl n ks ds x with
      | none => rw [e1] at e; cases e
      | some a =>
        rw [e1] at e
        cases e2 : l.mapM (argAt np dfl n ks ds) with
        | none => rw [e2] at e; cases e
        | some as' => rw [e2] at e; cases e; simp [ih e2]
  rw [this e, List.length_range]
section
variable {Γ : Gm} {am : List Addr} {H : Hp}
theorem RDs.mk : ∀ {ds : List D} {vs : List V}, vs.length = ds.length → (∀ (i : Nat) a, ds[i]? = some a → ∃ b, vs[i]? = some b ∧ RD Γ am H a b) → RDs Γ am H ds vs
  | [], vs, l, _ => by rw [List.eq_nil_of_length_eq_zero l]; exact RDs.nil
  | d :: ds, [], l, _ => by cases l
  | d :: ds, v :: vs, l, h => by
    obtain ⟨b, h1, h2⟩ := h 0 d rfl
    simp at h1
    subst h1
    exact RDs.cons h2 (RDs.mk (by simpa using l) fun i a e => by
      obtain ⟨b, h3, h4⟩ := h (i + 1) a (by simpa using e)
      exact ⟨b, by simpa using h3, h4⟩)
theorem Vals.mk : ∀ {ds : List V} {vs : List Value}, vs.length = ds.length → (∀ (i : Nat) a, ds[i]? = some a → ∃ b, vs[i]? = some b ∧ RelV a b) → Vals ds vs
  | [], vs, l, _ => by rw [List.eq_nil_of_length_eq_zero l]; exact .nil
  | d :: ds, [], l, _ => by cases l
  | d :: ds, v :: vs, l, h => by
    obtain ⟨b, h1, h2⟩ := h 0 d rfl
    simp at h1
    subst h1
    exact .cons h2 (Vals.mk (by simpa using l) fun i a e => by
      obtain ⟨b, h3, h4⟩ := h (i + 1) a (by simpa using e)
      exact ⟨b, by simpa using h3, h4⟩)
end
/-- how a call of that form binds -/
def Shape (K : PySem.W.Frag) (fd : FuncData) (ps : List Str) (np : Nat) (dus : List Value) (n : Nat) (ksn : List Str) (ks : List Nat) : Prop :=
  ∀ (s : Shared) (us ws : List Value), K.In s.heap → us.length = n → ws.length = ksn.length → ∃ g, arr np dus n ks (us ++ ws) = some g ∧ BindsTo s fd ⟨us, ksn.zip ws⟩ (ps.zip g)
/-- a def of the text, told in the machine -/
structure FunI (K : PySem.W.Frag) (Γ : Gm) (t : Tb) (f : Nat) (fn : Fn) where
  x : Str
  qual : Str
  params : Arguments
  body : List Stmt
  scope : Scope
  dvs : List V
  kws : List (Str × V)
  fd : FuncData
  N : List Str
  ps : List Str
  dus : List Value
  F : FunD K x qual params body scope dvs kws (Γ.fa f) fd
  S : FnScope N ps scope
  np : fn.np = ps.length
  ns : fn.ns = N.length
  dv : ∀ l am H, RDs (Γ.h l) am H fn.dfl dvs
  du : Vals dvs dus
  ck : ckB t N scope (fun _ => true) fn.body body = true
  sh : ∀ n ks, t.shp f n ks = true → Shape K fd ps fn.np dus n (t.kn f ks) ks ∧ (t.kn f ks).length = ks.length
structure World0 (K : PySem.W.Frag) (mg : Str → Option Value) (Γ : Gm) (t : Tb) (fns : Nat → Option Fn) where
  hK : Γ.K = K
  hcl : ∀ i ds v, Γ.cl i ds v → ∃ a, v = .ref a
  fnm : ∀ x f, t.gfn x = some f → mg x = some (.ref (Γ.fa f)) ∧ PySem.W.keepIn K (.ref (Γ.fa f)) = true
  cs : ∀ x d, t.gcs x = some d → ∃ u v, mg x = some u ∧ RelV v u ∧ ∀ l am H, RD (Γ.h l) am H d v
  fre : ∀ x, t.fre x = true → mg x = none
  fi : ∀ f fn, fns f = some fn → FunI K Γ t f fn
section
variable {P : Program} {w : World} {K : PySem.W.Frag} {mg : Str → Option Value} {base : Heap} {Γ : Gm} {t : Tb} {fns : Nat → Option Fn} {F0 : Nat}
def spK (Γ : Gm) (fns : Nat → Option Fn) (F0 : Nat) (k : Nat) (fn : Fn) : Sp := fun vs H Q E => match k with
  | 0 => False
  | k + 1 => ∃ (l : List Addr) (am : List Addr) (S : Sto) (args : List D), Rel (Γ.h l) am S H ∧ RDs (Γ.h l) am H args vs ∧ args.length = fn.np ∧ Out (Γ.h l) am H E (KV (Γ.h l) Q) (runFn (calK fns F0 k) F0 fn args S)
theorem runFn_out {C : Cal} {fn : Fn} {args : List D} {am : List Addr} {H : Hp} {S : Sto} {E : XK} {Q : VK} (q : Out Γ am H E (KV Γ Q) (runFn C F0 fn args S)) :
    OutS Γ am H (fun c d _ H => E c d H) { nx := fun _ H' => Q .non H', rt := Q } (evB C F0 fn.body (args.map some ++ List.replicate (fn.ns - args.length) none) S) := by
  unfold runFn at q
  cases e : evB C F0 fn.body (args.map some ++ List.replicate (fn.ns - args.length) none) S with
  | bad => rw [e] at q; exact q
  | exc c fs ρ S1 =>
    rw [e] at q
    exact fun am' H' σ cls dx e1 r1 re1 x => q am' H' cls dx e1 r1 x
  | ok f ρ S1 =>
    rw [e] at q
    cases f with
    | nx => exact fun am' H' σ e1 r1 re1 => q am' H' e1 r1 .non (by unfold RD; rfl)
    | rt d => exact fun am' H' σ e1 r1 re1 => q am' H' e1 r1
    | bk => exact q.elim
    | ct => exact q.elim
theorem start_RE {am : List Addr} {H : Hp} {args : List D} {vs : List V} {N : List Str} {n : Nat} (hn : n = N.length) (h : RDs Γ am H args vs) (hl : args.length ≤ N.length) : RE Γ am H (args.map some ++ List.replicate (n - args.length) none) (L2.start N vs) := by
  subst hn
  unfold L2.start
  refine ⟨by simp only [List.length_append, List.length_map, List.length_replicate, h.length], fun i d e => ?_⟩
  by_cases hi : i < args.length
  · rw [List.getElem?_append_left (by simpa using hi), List.getElem?_map] at e
    have e' : args[i]? = some d := by
      cases q : args[i]? with
      | none => rw [q] at e; cases e
      | some z => rw [q] at e; cases e; rfl
    obtain ⟨v, h1, h2⟩ := h.get e'
    exact ⟨v, by rw [List.getElem?_append_left (by simpa [h.length] using hi), List.getElem?_map, h1]; rfl, h2⟩
  · rw [List.getElem?_append_right (by simpa using hi), List.getElem?_replicate] at e
    split at e <;> cases e
theorem spK_len {k : Nat} {fn : Fn} {vs : List V} {H : Hp} {Q : VK} {E : XK} (h : spK Γ fns F0 k fn vs H Q E) : vs.length = fn.np := by
  cases k with
  | zero => exact h.elim
  | succ k =>
    obtain ⟨l, am, S, args, r, hd, hl, q⟩ := h
    rw [hd.length, hl]
/-- what is known in each body -/
theorem good_of (W0 : World0 K mg Γ t fns) (l : List Addr) {k : Nat} (ih : ∀ f fn (h : fns f = some fn), FnOk P w K mg base (L2.CX P w) k (Γ.fa f) (W0.fi f fn h).fd (W0.fi f fn h).ps (spK Γ fns F0 k fn))
    {X : Cx} (hP : X.prog = P) (hw : X.w = w) (hK : X.K = K) (hmg : X.mg = mg) (hb : X.base = base) (hr : Room k X.A) (hnd : X.N.Nodup) (hc : X.calm = true) : Good t (Γ.h l) (calK fns F0 k) X.N X.env.scope X where
  hN := rfl
  nd := hnd
  hsc := rfl
  calm := hc
  hK := by rw [hK]; exact W0.hK
  hcl := W0.hcl
  hu := hr.units
  fnm := by rw [hmg, hK]; exact W0.fnm
  cs := by rw [hmg]; exact W0.cs
  fre := by rw [hmg]; exact W0.fre
  calls := by
    intro X' e1 e2 e3 e4 e5 e6 W tk pins s σ H us ws vs zs Q f ks I r1 r2 hs hl ⟨l', am, S, ds, es, rel, hd, he, q⟩
    rw [hP] at e1
    rw [hw] at e2
    rw [hK] at e3
    rw [hmg] at e4
    rw [hb] at e5
    cases k with
    | zero => exact q.elim
    | succ k =>
      have q : Out (Γ.h l') am H (wo W σ) (KV (Γ.h l') Q) (match fns f with
        | none => .bad
        | some fn => match arr fn.np fn.dfl ((ds ++ es).length - ks.length) ks (ds ++ es) with
          | none => .bad
          | some args => runFn (calK fns F0 k) F0 fn args S) := q
      cases hf : fns f with
      | none => rw [hf] at q; exact q.elim
      | some fn =>
        rw [hf] at q
        dsimp only at q
        have hn : (ds ++ es).length - ks.length = us.length := by
          have a1 := hd.length
          have a2 := he.length
          have a3 := r1.length
          have a4 := r2.length
          rw [List.length_append]
          omega
        rw [hn] at q
        cases ha : arr fn.np fn.dfl us.length ks (ds ++ es) with
        | none => rw [ha] at q; exact q.elim
        | some args =>
          rw [ha] at q
          dsimp only at q
          have FI := W0.fi f fn hf
          have F := ih f fn hf
          generalize W0.fi f fn hf = FI at F
          have hdv := FI.dv l' am H
          have hvs : RDs (Γ.h l') am H (ds ++ es) (vs ++ zs) := hd.append he
          obtain ⟨gv, g1, g2, g3⟩ := arr_rel (R := RD (Γ.h l') am H) hdv.length (fun i a e => hdv.get e) (fun i a e => hvs.get e) ha
          have hvu : Vals (vs ++ zs) (us ++ ws) := r1.append r2
          obtain ⟨gu, k1, k2, k3⟩ := arr_rel (R := RelV) FI.du.length.symm (fun i a e => FI.du.get e) (fun i a e => hvu.get e) g1
          obtain ⟨sh1, sh2⟩ := FI.sh us.length ks hs
          have hks : ws.length = (t.kn f ks).length := by rw [hl, sh2]
          have KI : K.In s.heap := by rw [← e3]; exact I.kIn
          obtain ⟨g, b1, b2⟩ := sh1 s us ws KI rfl hks
          rw [k1] at b1
          cases b1
          have hsp : spK Γ fns F0 (k + 1) fn gv H Q (WE W σ) := ⟨l', am, S, args, rel, RDs.mk g2 g3, arr_len ha, q⟩
          have env0 : Env0 P w K mg base X'.A X'.stack s H := by
            have := I.env0
            rw [e1, e2, e3, e4, e5] at this
            exact this
          refine wpAny_call ?_
          rw [e1, e2]
          refine codeAny_mono (F.run X'.A X'.stack s H ⟨us, (t.kn f ks).zip ws⟩ gu gv Q (WE W σ) (by rw [e6]; exact hr) env0 b2 (Vals.mk k2 k3) hsp) fun r s' hq => ?_
          cases r with
          | error e =>
            have hx := passAt tk σ
            rw [e1, e2] at hx
            exact hx pins H s e s' I hq
          | ok fl =>
            cases fl with
            | ret u =>
              have hq : CE X'.stack P w H s Q u s' := hq
              rw [← e1, ← e2] at hq
              exact I.after hq
            | next => exact False.elim hq
            | brk => exact False.elim hq
            | cont => exact False.elim hq
/-- ALL DEFS: what the machine tells holds of the model -/
theorem all_ok (W0 : World0 K mg Γ t fns) : ∀ (k : Nat) (f : Nat) (fn : Fn) (h : fns f = some fn), FnOk P w K mg base (L2.CX P w) k (Γ.fa f) (W0.fi f fn h).fd (W0.fi f fn h).ps (spK Γ fns F0 k fn)
  | 0, f, fn, h => ⟨fun _ _ _ _ q => q.elim, fun _ _ _ _ _ _ _ _ _ _ _ _ _ q => q.elim⟩
  | k + 1, f, fn, h => by
    have ih := all_ok W0 k
    generalize hFI : W0.fi f fn h = FI
    refine FI.F.ok FI.S (fun vs H Q E q => by rw [spK_len q, FI.np]) fun cdv A outer s H vs Q E hr hsp => ?_
    obtain ⟨l, am, S, args, rel, hd, hl, q⟩ := hsp
    refine ⟨tS (Γ.h l) (fun c d _ H => E c d H) (fun ρ S => evB (calK fns F0 k) F0 fn.body ρ S), ?_, ⟨am, _, S, rel, start_RE FI.ns hd ?_, runFn_out q⟩⟩
    · have G := good_of (P := P) (w := w) (base := base) W0 l ih (X := cxOf (L2.CX P w) P w K mg base FI.N FI.qual FI.scope (Γ.fa f) cdv A outer s H E) rfl rfl rfl rfl rfl hr FI.S.nd rfl
      exact ckB_ok G (takes_of rfl rfl rfl rfl) (passes_of rfl) (fun _ _ => rfl) FI.ck
    · rw [hl, FI.np]
      have := congrArg List.length FI.S.pre
      rw [List.length_take] at this
      omega
end
end PI

/-! from the head's facts to all defs -/
namespace PI
open PySem PySem.Spec PyProof.Rows L2
/-- the binding of one form of call, told by the text alone -/
structure ShapeH (d : He.DefD) (ps : List Str) (nd np n : Nat) (ksn : List Str) (ks : List Nat) : Prop where
  no : nd = 0 → ∀ (kV doc pm : Value) (an : Option Addr) (cdv ct : Value) (us ws : List Value), us.length = n → ws.length = ksn.length →
    ∃ g, arr np [] n ks (us ++ ws) = some g ∧ bindArgs (PySem.W.fnOf d.name d.qual d.params d.body d.scope .none kV doc pm an cdv ct) ⟨us, ksn.zip ws⟩ = pure (ps.zip g)
  so : nd ≠ 0 → ∀ (T : Addr) (kV doc pm : Value) (an : Option Addr) (cdv ct : Value) (us its ws : List Value), us.length = n → its.length = nd → ws.length = ksn.length →
    ∃ g k, arr np its n ks (us ++ ws) = some g ∧ bindArgs (PySem.W.fnOf d.name d.qual d.params d.body d.scope (.ref T) kV doc pm an cdv ct) ⟨us, ksn.zip ws⟩ = seqItems? (.ref T) >>= k ∧ k (some its.toArray) = pure (ps.zip g)
theorem shapes {K : PySem.W.Frag} {d : He.DefD} {dvs : List V} {kws : List (Str × V)} {f : Addr} {fd : FuncData} (F : FunD K d.name d.qual d.params d.body d.scope dvs kws f fd) :
    ∃ dus, Vals dvs dus ∧ ∀ {ps : List Str} {np n : Nat} {ksn : List Str} {ks : List Nat}, ShapeH d ps dvs.length np n ksn ks → Shape K fd ps np dus n ksn ks := by
  obtain ⟨oc, od, dV, kV, doc, pm, an, cdv, ct, osl, rfl, lk, hcd, hD, hK⟩ := F.ex
  rcases hD with ⟨e, rfl⟩ | ⟨e, T, o, its, m, rfl, lT, oT, rT⟩
  · refine ⟨[], by rw [e]; exact .nil, fun {ps np n ksn ks} h s us ws KI l1 l2 => ?_⟩
    obtain ⟨g, h1, h2⟩ := h.no (by rw [e]; rfl) kV doc pm an cdv ct us ws l1 l2
    exact ⟨g, h1, BindsTo.of_eq h2⟩
  · refine ⟨its, rT, fun {ps np n ksn ks} h s us ws KI l1 l2 => ?_⟩
    obtain ⟨g, k, h1, h2, h3⟩ := h.so (fun z => e (List.eq_nil_of_length_eq_zero z)) T kV doc pm an cdv ct us its ws l1 rT.length.symm l2
    refine ⟨g, h1, BindsTo.of_looks fun M => ?_⟩
    rw [h2]
    exact looks_items KI lT oT (.of_pure h3)
/-- one def in the machine's words -/
structure Row where
  d : He.DefD
  N : List Str
  fn : Fn
def Row.ps (r : Row) : List Str := r.d.params.args.map (·.arg)
def dvOf : D → He.Dv
  | .bl b => .bl b
  | .int i => .int i
  | .str s => .str ⟨s.toArray⟩
  | _ => .non
def dvOk : D → Bool
  | .non => true
  | .bl _ => true
  | .int _ => true
  | .str _ => true
  | _ => false
theorem dv_rel {Γ : Gm} {K : PySem.W.Frag} {am : List Addr} {H : Hp} : ∀ {ds : List D}, ds.all dvOk = true → RDs Γ am H ds ((ds.map dvOf).map (He.Dv.v K))
  | [], _ => RDs.nil
  | d :: ds, h => by
    rw [List.all_cons, Bool.and_eq_true] at h
    refine RDs.cons ?_ (dv_rel h.2)
    have h1 := h.1
    cases d <;> first | (unfold RD; rfl) | cases h1
structure Tab where
  nm : List Str
  fr : List Str
  cs : List (Str × Int)
  ps : List (List Str)
  sh : List (List (Nat × List Nat))
def Tab.t (T : Tab) : Tb where
  gfn := fun x => T.nm.idxOf? x
  gcs := fun x => (T.cs.lookup x).map D.int
  fre := fun x => T.fr.contains x
  kn := fun f ks => match T.ps[f]? with
    | some l => ks.filterMap fun i => l[i]?
    | none => []
  shp := fun f n ks => match T.sh[f]? with
    | some l => l.contains (n, ks)
    | none => false
def Tab.fa (T : Tab) : List He.Fa := T.nm.map .glo ++ (T.fr.map .free ++ T.cs.map fun p => .int p.1 p.2)
structure RowOk (T : Tab) (i : Nat) (r : Row) : Prop where
  S : FnScope r.N r.ps r.d.scope
  np : r.fn.np = r.ps.length
  ns : r.fn.ns = r.N.length
  kw : r.d.kwd = []
  df : r.d.dfl = r.fn.dfl.map dvOf
  dk : r.fn.dfl.all dvOk = true
  ck : ckB T.t r.N r.d.scope (fun _ => true) r.fn.body r.d.body = true
  sh : ∀ p ∈ (T.sh[i]?).getD [], ShapeH r.d r.ps r.fn.dfl.length r.fn.np p.1 (T.t.kn i p.2) p.2 ∧ (T.t.kn i p.2).length = p.2.length
def gmOf (K : PySem.W.Frag) (mg : Str → Option Value) (T : Tab) : Gm := ⟨K, mg, fun f => match T.nm[f]? with
  | some x => He.fAd K (x, none)
  | none => 0, fun _ _ _ => False, []⟩
noncomputable def world_of {K : PySem.W.Frag} {h : Heap} {mg : Str → Option Value} (X : K.In h) (G : h.Ns mainGlobals mg) (T : Tab) (rows : List Row) (c : He.SaysD T.fa (rows.map (·.d)) K) (hn : rows.map (·.d.at_) = T.nm.map fun x => (x, none))
    (ok : ∀ i r, rows[i]? = some r → RowOk T i r) : World0 K mg (gmOf K mg T) T.t (fun f => (rows[f]?).map (·.fn)) where
  hK := rfl
  hcl := fun _ _ _ h => h.elim
  fnm := fun x f hx => by
    have h1 : T.nm[f]? = some x := by
      have hx : T.nm.idxOf? x = some f := hx
      obtain ⟨hl, h2, _⟩ := List.findIdx?_eq_some_iff_getElem.mp hx
      rw [List.getElem?_eq_getElem hl, eq_of_beq h2]
    have hl := (List.getElem?_eq_some_iff.mp h1).1
    have hr : f < rows.length := by
      have := congrArg List.length hn
      rw [List.length_map, List.length_map] at this
      omega
    have hd : (rows.map (·.d))[f]? = some rows[f].d := by rw [List.getElem?_map, List.getElem?_eq_getElem hr]; rfl
    have ha : rows[f].d.at_ = (x, none) := by
      have := congrArg (fun l => l[f]?) hn
      simp only [List.getElem?_map, h1, List.getElem?_eq_getElem hr] at this
      exact Option.some.inj this
    obtain ⟨fd, F⟩ := c.def_ f hd
    have e : (gmOf K mg T).fa f = He.fAd K (x, none) := by
      show (match T.nm[f]? with | some x => He.fAd K (x, none) | none => 0) = _
      rw [h1]
    rw [e]
    refine ⟨He.glo_ok X G (c.fact f (f := .glo x) ?_), ?_⟩
    · unfold Tab.fa
      rw [List.getElem?_append_left (by simpa using hl), List.getElem?_map, h1]
      rfl
    · rw [← ha]; exact F.kp
  cs := fun x d hx => by
    have hx : (T.cs.lookup x).map D.int = some d := hx
    cases e : T.cs.lookup x with
    | none => rw [e] at hx; cases hx
    | some i =>
      rw [e] at hx
      cases hx
      have hm : (He.Fa.int x i) ∈ T.fa := by
        unfold Tab.fa
        refine List.mem_append_right _ (List.mem_append_right _ (List.mem_map.mpr ⟨(x, i), PySem.mem_of_lookup e, rfl⟩))
      obtain ⟨j, hj⟩ := List.getElem?_of_mem hm
      obtain ⟨tk, ht⟩ := He.int_ok X G (c.fact j hj)
      exact ⟨_, .int i, ht, ⟨tk, rfl⟩, fun _ _ _ => by unfold RD; rfl⟩
  fre := fun x hx => by
    have hx : T.fr.contains x = true := hx
    have hm : (He.Fa.free x) ∈ T.fa := by
      unfold Tab.fa
      exact List.mem_append_right _ (List.mem_append_left _ (List.mem_map.mpr ⟨x, by simpa using hx, rfl⟩))
    obtain ⟨j, hj⟩ := List.getElem?_of_mem hm
    exact He.free_ok X G (c.fact j hj)
  fi := fun f fn hf => by
    have hl : f < rows.length := by
      cases q : rows[f]? with
      | none => rw [q] at hf; cases hf
      | some r => exact (List.getElem?_eq_some_iff.mp q).1
    have hr : rows[f]? = some rows[f] := List.getElem?_eq_getElem hl
    have hfn : fn = rows[f].fn := by rw [hr] at hf; exact (Option.some.inj hf).symm
    have O := ok f rows[f] hr
    have D0 := c.def_ f (d := rows[f].d) (by rw [List.getElem?_map, hr]; rfl)
    have F := Classical.choose_spec D0
    have Sh := shapes F
    have S1 := Classical.choose_spec Sh
    have ha : He.fAd K rows[f].d.at_ = (gmOf K mg T).fa f := by
      have hl2 : f < T.nm.length := by
        have := congrArg List.length hn
        rw [List.length_map, List.length_map] at this
        omega
      have := congrArg (fun l => l[f]?) hn
      simp only [List.getElem?_map, hr, List.getElem?_eq_getElem hl2] at this
      show _ = (match T.nm[f]? with | some x => He.fAd K (x, none) | none => 0)
      rw [List.getElem?_eq_getElem hl2, show rows[f].d.at_ = (T.nm[f], none) from Option.some.inj this]
    have hdl : (rows[f].d.dvs K).length = fn.dfl.length := by
      unfold He.DefD.dvs
      rw [O.df, hfn, List.length_map, List.length_map]
    exact {
      x := rows[f].d.name, qual := rows[f].d.qual, params := rows[f].d.params, body := rows[f].d.body, scope := rows[f].d.scope
      dvs := rows[f].d.dvs K, kws := rows[f].d.kws K, fd := Classical.choose D0, N := rows[f].N, ps := rows[f].ps, dus := Classical.choose Sh
      F := by rw [← ha]; exact F
      S := O.S
      np := by rw [hfn]; exact O.np
      ns := by rw [hfn]; exact O.ns
      dv := fun l am H => by
        unfold He.DefD.dvs
        rw [O.df, hfn]
        exact dv_rel O.dk
      du := S1.1
      ck := by rw [hfn]; exact O.ck
      sh := fun n ks hs => by
        have hs : (match T.sh[f]? with | some l => l.contains (n, ks) | none => false) = true := hs
        have hm : (n, ks) ∈ (T.sh[f]?).getD [] := by
          cases q : T.sh[f]? with
          | none => rw [q] at hs; cases hs
          | some l => rw [q] at hs; simpa using hs
        obtain ⟨h1, h2⟩ := O.sh _ hm
        rw [← hfn, ← hdl] at h1
        exact ⟨S1.2 h1, h2⟩ }
/-- a law's end, the errors' shape told by the world -/
theorem walk_w {l : PySem.W.OpenLaw} {n k : Nat} {q : Program} {loose : List Str} {XP : (Str → Option Value) → Heap → Prop} {YP : World → Heap → Prop} {d : DefRec} {x : Str}
    (hn : l.most = some n) (hn2 : n ≤ sizeLine) (hdf : d.params.defaults = []) (hr : Room k callerA)
    (F : ∀ (w : World) (mg : Str → Option Value) (fa : Addr) (h : Heap), YP w h → h.Ns mainGlobals mg → mg d.name = some (.ref fa) → ∃ (K : PySem.W.Frag) (fd : FuncData) (sp : Sp), K.In h ∧
      (∀ (s : Shared) (u : Value), BindsTo s fd ⟨[u], []⟩ [(x, u)]) ∧ (∀ (H : Hp) (a : Addr) (ns : List Int), ns.length ≤ n → Only H → SqL K H a (ns.map V.int) → sp [.ref a] H (fun v _ => v = .bl true) fun _ _ _ => False) ∧
      ∀ base : Heap, K.In base → base.Ns mainGlobals mg → FnOk l.prog w K mg base (L2.CX l.prog w) k fa fd [x] sp) :
    PySem.W.WalkO q loose XP YP l.row.toRowW d [] (fun f vs => PySem.call f vs) :=
  Att.attach_call hn hdf fun w s₀ s₁ mg mb fa o pm cd doc a vs ns G Y ho hd hcd hmg hobj hints hlen hg => by
    obtain ⟨K, fd, sp, KX, hb, hsp, hF⟩ := F w mg fa _ Y G.T.g hmg
    exact law_call KX G.T.g G.T.b G.T.builtins G.T.nolimit hg hobj hints (Nat.le_trans hlen hn2) hr hF hb (fun H hO hS => hsp H a ns hlen hO hS)
      fun H e s' ⟨_, _, _, _, _, _, _, _, _, _, _, _, z⟩ => z
/-- what is left: the machine answers true -/
theorem facts_of {l : PySem.W.OpenLaw} {T : Tab} {rows : List Row} {k li n : Nat} {lr : Row} (hn : rows.map (·.d.at_) = T.nm.map fun x => (x, none)) (ok : ∀ i r, rows[i]? = some r → RowOk T i r) (hl : rows[li]? = some lr) (hln : T.nm[li]? = some ("law" : Str)) (hp : lr.ps = [("script" : Str)])
    (main : ∀ ns : List Int, ns.length ≤ n → ∃ F0 S', runFn (calK (fun f => (rows[f]?).map (·.fn)) F0 k) F0 lr.fn [.scr ns] [] = .ok (.bl true) S')
    {w : World} {K : PySem.W.Frag} {h : Heap} {mg : Str → Option Value} {f : Addr} (X : K.In h) (G : h.Ns mainGlobals mg) (hfa : mg ("law" : Str) = some (.ref f)) (c : He.SaysD T.fa (rows.map (·.d)) K) (hb : ∀ fd, FunD K lr.d.name lr.d.qual lr.d.params lr.d.body lr.d.scope (lr.d.dvs K) (lr.d.kws K) f fd → ∀ (s : Shared) (v : Value), BindsTo s fd ⟨[v], []⟩ [(("script" : Str), v)]) :
    ∃ (fd : FuncData) (sp : Sp), (∀ (s : Shared) (v : Value), BindsTo s fd ⟨[v], []⟩ [(("script" : Str), v)]) ∧ (∀ (H : Hp) (a : Addr) (ns : List Int), ns.length ≤ n → Only H → SqL K H a (ns.map V.int) → sp [.ref a] H (fun v _ => v = .bl true) fun _ _ _ => False) ∧
      ∀ base : Heap, K.In base → base.Ns mainGlobals mg → FnOk l.prog w K mg base (L2.CX l.prog w) (k + 1) f fd [("script" : Str)] sp := by
  have hfl : (fun f => (rows[f]?).map (·.fn)) li = some lr.fn := by show (rows[li]?).map (·.fn) = _; rw [hl]; rfl
  have hA : f = (gmOf K mg T).fa li := by
    have g : mg ("law" : Str) = some (.ref (He.fAd K (("law" : Str), none))) := He.glo_ok X G (c.fact li (f := .glo ("law" : Str)) (by
      unfold Tab.fa
      have hl2 := (List.getElem?_eq_some_iff.mp hln).1
      rw [List.getElem?_append_left (by simpa using hl2), List.getElem?_map, hln]
      rfl))
    have e := hfa.symm.trans g
    show _ = (match T.nm[li]? with | some x => He.fAd K (x, none) | none => 0)
    rw [hln]
    injection e with e
    injection e
  subst hA
  have O := ok li lr hl
  have D0 : ∃ (fd : FuncData), (∀ (s : Shared) (v : Value), BindsTo s fd ⟨[v], []⟩ [(("script" : Str), v)]) ∧ ∀ (F0 : Nat) (base : Heap), FnOk l.prog w K mg base (L2.CX l.prog w) (k + 1) ((gmOf K mg T).fa li) fd lr.ps (spK (gmOf K mg T) (fun f => (rows[f]?).map (·.fn)) F0 (k + 1) lr.fn) := by
    have hll := (List.getElem?_eq_some_iff.mp hl)
    obtain ⟨hll, hle⟩ := hll
    have A := fun (F0 : Nat) (base : Heap) => all_ok (P := l.prog) (w := w) (base := base) (F0 := F0) (world_of X G T rows c hn ok) (k + 1) li lr.fn hfl
    have hps : ((world_of X G T rows c hn ok).fi li lr.fn hfl).ps = (rows[li]'hll).ps := rfl
    rw [hle] at hps
    obtain ⟨fd', F'⟩ := c.def_ li (d := lr.d) (by rw [List.getElem?_map, hl]; rfl)
    have F := ((world_of X G T rows c hn ok).fi li lr.fn hfl).F
    have ha : He.fAd K lr.d.at_ = (gmOf K mg T).fa li := by
      have := congrArg (fun l => l[li]?) hn
      simp only [List.getElem?_map, hl, hln] at this
      show _ = (match T.nm[li]? with | some x => He.fAd K (x, none) | none => 0)
      rw [hln, show lr.d.at_ = (("law" : Str), none) from Option.some.inj this]
    rw [ha] at F'
    have hfd : ((world_of X G T rows c hn ok).fi li lr.fn hfl).fd = fd' := by
      obtain ⟨oc, od, dV, kV, doc, pm, an, cdv, ct, osl, e1, lk, _⟩ := F.ex
      obtain ⟨oc', od', dV', kV', doc', pm', an', cdv', ct', osl', e1', lk', _⟩ := F'.ex
      rw [lk] at lk'
      injection lk' with lk'
      injection lk' with _ _ q _
      injection q
    refine ⟨fd', hb fd' F', fun F0 base => ?_⟩
    have A := A F0 base
    rw [hps, hfd] at A
    exact A
  obtain ⟨fd, hbd, hok⟩ := D0
  rw [hp] at hok
  refine ⟨fd, fun vs H Q E => ∃ F0, spK (gmOf K mg T) (fun f => (rows[f]?).map (·.fn)) F0 (k + 1) lr.fn vs H Q E, hbd, ?_, ?_⟩
  · intro H a ns hlen hO hS
    obtain ⟨F0, S', e⟩ := main ns hlen
    refine ⟨F0, [], [], [], [.scr ns], ⟨rfl, List.nodup_nil, fun k o e => by simp at e, fun a h => by cases h⟩, RDs.cons ?_ RDs.nil, ?_, ?_⟩
    · unfold RD
      refine ⟨a, rfl, ?_⟩
      rcases hS with hS | hS
      · exact .inl ⟨hS, by simp, by simp⟩
      · exact .inr hS
    · rw [O.np, hp]
      rfl
    · rw [e]
      intro am' H' _ _ v hv
      exact hv.blv
  · intro base _ _
    exact ⟨fun vs H Q E ⟨F0, q⟩ => (hok F0 base).len vs H Q E q, fun A outer s H args us vs Q E hr he hb hv ⟨F0, q⟩ => (hok F0 base).run A outer s H args us vs Q E hr he hb hv q⟩
end PI

/-! asking the machine: what holds behind it -/
namespace PI
open PySem PySem.Spec PyProof.Rows L2
/-- abs -/
def iabs (x : Int) : Int := if x < 0 then -x else x
def RQ {α : Type} (r : R α) (Q : α → Sto → Prop) : Prop := match r with
  | .ok a S => Q a S
  | _ => False
def RSQ (r : RS) (Q : Fl → Env → Sto → Prop) : Prop := match r with
  | .ok f ρ S => Q f ρ S
  | _ => False
section
variable {α β : Type} {S : Sto} {ρ : Env} {C : Cal} {F : Nat}
theorem RQ.mono {r : R α} {Q Q' : α → Sto → Prop} (h : RQ r Q) (f : ∀ a S, Q a S → Q' a S) : RQ r Q' := by
  cases r with
  | ok a S => exact f a S h
  | exc _ _ _ => exact h
  | bad => exact h
theorem RSQ.mono {r : RS} {Q Q' : Fl → Env → Sto → Prop} (h : RSQ r Q) (f : ∀ a ρ S, Q a ρ S → Q' a ρ S) : RSQ r Q' := by
  cases r with
  | ok a ρ S => exact f a ρ S h
  | exc _ _ _ _ => exact h
  | bad => exact h
theorem RQ.ex {r : R α} {Q : α → Sto → Prop} (h : RQ r Q) : ∃ a S, r = .ok a S ∧ Q a S := by
  cases r with
  | ok a S => exact ⟨a, S, rfl, h⟩
  | exc _ _ _ => exact h.elim
  | bad => exact h.elim
theorem rq_ok {a : α} {Q : α → Sto → Prop} : RQ (.ok a S) Q = Q a S := propext Iff.rfl
theorem rsq_ok {f : Fl} {Q : Fl → Env → Sto → Prop} : RSQ (.ok f ρ S) Q = Q f ρ S := propext Iff.rfl
theorem rq_bind {m : M α} {f : α → M β} {Q : β → Sto → Prop} : RQ (M.bind m f S) Q = RQ (m S) (fun a S' => RQ (f a S') Q) := by
  unfold M.bind
  cases m S <;> rfl
theorem rq_ret {a : α} {Q : α → Sto → Prop} : RQ (M.ret a S) Q = Q a S := propext Iff.rfl
theorem rq_opt {a : α} {Q : α → Sto → Prop} : RQ (M.opt (some a) S) Q = Q a S := propext Iff.rfl
theorem rq_calm {m : M α} {Q : α → Sto → Prop} : RQ (M.calm m S) Q = RQ (m S) Q := by
  unfold M.calm
  cases m S <;> rfl
theorem rsq_lift {m : M α} {f : α → Sto → RS} {Q : Fl → Env → Sto → Prop} : RSQ (lift m ρ f S) Q = RQ (m S) (fun a S' => RSQ (f a S') Q) := by
  unfold lift
  cases m S <;> rfl
/-- behind a statement: on, or out -/
def q_on (f : Env → Sto → RS) (Q : Fl → Env → Sto → Prop) : Fl → Env → Sto → Prop
  | .nx, ρ, S => RSQ (f ρ S) Q
  | fl, ρ, S => Q fl ρ S
theorem rsq_seq {r : RS} {f : Env → Sto → RS} {Q : Fl → Env → Sto → Prop} : RSQ (RS.seq r f) Q = RSQ r (q_on f Q) := by
  unfold RS.seq
  cases r with
  | ok fl ρ S => cases fl <;> rfl
  | exc _ _ _ _ => rfl
  | bad => rfl
theorem q_nx {f : Env → Sto → RS} {Q : Fl → Env → Sto → Prop} : q_on f Q .nx ρ S = RSQ (f ρ S) Q := propext Iff.rfl
theorem q_rt {f : Env → Sto → RS} {Q : Fl → Env → Sto → Prop} {d : D} : q_on f Q (.rt d) ρ S = Q (.rt d) ρ S := propext Iff.rfl
theorem q_bk {f : Env → Sto → RS} {Q : Fl → Env → Sto → Prop} : q_on f Q .bk ρ S = Q .bk ρ S := propext Iff.rfl
theorem q_ct {f : Env → Sto → RS} {Q : Fl → Env → Sto → Prop} : q_on f Q .ct ρ S = Q .ct ρ S := propext Iff.rfl
theorem q_if {p : Prop} [Decidable p] {a b : RS} {Q : Fl → Env → Sto → Prop} : RSQ (if p then a else b) Q = if p then RSQ a Q else RSQ b Q := by split <;> rfl
theorem rq_ite {p : Prop} [Decidable p] {a b : M α} {Q : α → Sto → Prop} : RQ ((if p then a else b) S) Q = if p then RQ (a S) Q else RQ (b S) Q := by split <;> rfl
theorem rq_truM {d : D} {Q : Bool → Sto → Prop} : RQ (truM d S) Q = RQ (M.opt (tru S d) S) Q := propext Iff.rfl
theorem tru_bl {b : Bool} : tru S (.bl b) = some b := rfl
theorem tru_int {i : Int} : tru S (.int i) = some (i != 0) := rfl
section
variable {i j : Int} {Q : D → Sto → Prop}
theorem b_add : RQ (binop .add (.int i) (.int j) S) Q = Q (.int (i + j)) S := propext Iff.rfl
theorem b_sub : RQ (binop .sub (.int i) (.int j) S) Q = Q (.int (i - j)) S := propext Iff.rfl
theorem b_mul : RQ (binop .mul (.int i) (.int j) S) Q = (mulX i j ∧ Q (.int (i * j)) S) := by
  show RQ (if bits i + bits j < 1000000 ∨ bits i < 64 ∨ bits j < 64 then R.ok (.int (i * j)) S else .bad) Q = _
  unfold mulX
  split
  · rename_i h; simp only [rq_ok, h, true_and]
  · rename_i h; simp only [RQ, h, false_and]
theorem b_fdiv : RQ (binop .fdiv (.int i) (.int j) S) Q = ((0 < j ∧ bits j < 9000) ∧ Q (.int (i / j)) S) := by
  show RQ (if 0 < j ∧ bits j < 9000 then R.ok (.int (i / j)) S else .bad) Q = _
  split
  · rename_i h; simp only [rq_ok, h, true_and]
  · rename_i h; simp only [RQ, h, false_and]
theorem b_mod : RQ (binop .mod (.int i) (.int j) S) Q = (0 < j ∧ Q (.int (i % j)) S) := by
  show RQ (if 0 < j then R.ok (.int (i % j)) S else .bad) Q = _
  split
  · rename_i h; simp only [rq_ok, h, true_and]
  · rename_i h; simp only [RQ, h, false_and]
theorem b_pow : RQ (binop .pow (.int i) (.int j) S) Q = ((0 ≤ j ∧ (Builtin.Int.intBits i : Int) * j ≤ 2 ^ 27) ∧ Q (.int (i ^ j.toNat)) S) := by
  show RQ (if 0 ≤ j ∧ (Builtin.Int.intBits i : Int) * j ≤ 2 ^ 27 then R.ok (.int (i ^ j.toNat)) S else .bad) Q = _
  split
  · rename_i h; simp only [rq_ok, h, true_and]
  · rename_i h; simp only [RQ, h, false_and]
theorem a_add : RQ (augop .add (.int i) (.int j) S) Q = Q (.int (i + j)) S := propext Iff.rfl
theorem a_sub : RQ (augop .sub (.int i) (.int j) S) Q = Q (.int (i - j)) S := propext Iff.rfl
theorem a_mul : RQ (augop .mul (.int i) (.int j) S) Q = (mulX i j ∧ Q (.int (i * j)) S) := b_mul
theorem u_int {g : Int → Int} : RQ (unopI g (.int i) S) Q = Q (.int (g i)) S := propext Iff.rfl
theorem b_lst {xs ys : List D} : RQ (binop .add (.lst xs) (.lst ys) S) Q = (xs.length + ys.length ≤ lim ∧ Q (.lst (xs ++ ys)) S) := by
  show RQ (if xs.length + ys.length ≤ lim then R.ok (.lst (xs ++ ys)) S else .bad) Q = _
  split
  · rename_i h; simp only [rq_ok, h, true_and]
  · rename_i h; simp only [RQ, h, false_and]
theorem b_rep {xs : List D} : RQ (binop .mul (.tup xs) (.int j) S) Q = ((2 ≤ j ∧ j ≤ 1000 ∧ xs.length ≤ 1000 ∧ xs ≠ []) ∧ Q (.tup (repL j.toNat xs)) S) := by
  show RQ (if 2 ≤ j ∧ j ≤ 1000 ∧ xs.length ≤ 1000 ∧ xs ≠ [] then R.ok (.tup (repL j.toNat xs)) S else .bad) Q = _
  split
  · rename_i h; exact propext ⟨fun q => ⟨h, q⟩, fun q => q.2⟩
  · rename_i h; exact propext ⟨fun q => q.elim, fun q => h q.1⟩
theorem t_abs : RQ (biop .abs [.int i] S) Q = Q (.int (iabs i)) S := propext Iff.rfl
theorem t_len_t {xs : List D} : RQ (biop .len [.tup xs] S) Q = Q (.int xs.length) S := propext Iff.rfl
theorem t_len_l {xs : List D} : RQ (biop .len [.lst xs] S) Q = Q (.int xs.length) S := propext Iff.rfl
theorem t_int : RQ (biop .int [.int i] S) Q = Q (.int i) S := propext Iff.rfl
theorem t_intb {b : Bool} : RQ (biop .int [.bl b] S) Q = Q (.int (if b then 1 else 0)) S := propext Iff.rfl
theorem t_isi {t : Ty} {d : D} : RQ (biop (.isi t) [d] S) Q = RQ (M.opt ((tyIs t (deref S d)).map D.bl) S) Q := propext Iff.rfl
theorem t_max2 : RQ (biop .max [.int i, .int j] S) Q = Q (.int (if j > i then j else i)) S := propext Iff.rfl
theorem t_min2 : RQ (biop .min [.int i, .int j] S) Q = Q (.int (if j < i then j else i)) S := propext Iff.rfl
theorem t_tup {xs : List D} : RQ (biop .tuple [.lst xs] S) Q = Q (.tup xs) S := propext Iff.rfl
end
section
variable {i j : Int} {Q : Bool → Sto → Prop}
theorem c_lt : RQ (cmpop .lt (.int i) (.int j) S) Q = Q (decide (i < j)) S := propext Iff.rfl
theorem c_le : RQ (cmpop .le (.int i) (.int j) S) Q = Q (decide (i ≤ j)) S := propext Iff.rfl
theorem c_gt : RQ (cmpop .gt (.int i) (.int j) S) Q = Q (decide (j < i)) S := propext Iff.rfl
theorem c_ge : RQ (cmpop .ge (.int i) (.int j) S) Q = Q (decide (j ≤ i)) S := propext Iff.rfl
theorem c_is {d e : D} : RQ (cmpop .is d e S) Q = RQ (M.opt (match d, e with | a, .non => some (isNon a) | a, .bl b => some (isBl b a) | _, _ => none) S) Q := by
  cases e <;> rfl
theorem c_isn {d e : D} : RQ (cmpop .isn d e S) Q = RQ (M.opt (match d, e with | a, .non => some (!isNon a) | a, .bl b => some (!isBl b a) | _, _ => none) S) Q := by
  cases e <;> rfl
theorem deq_int : deq (.int i) (.int j) = decide (i = j) := by
  show PyData.eqv (.int i) (.int j) = _
  first | rfl | (simp [PyData.eqv]) | (unfold PyData.eqv; rfl)
theorem c_eq : RQ (cmpop .eq (.int i) (.int j) S) Q = Q (decide (i = j)) S := by
  show RQ (M.opt (eqM S (.int i) (.int j)) S) Q = _
  have : eqM S (.int i) (.int j) = some (decide (i = j)) := by
    show (if (pl 12 (.int i) && pl 12 (.int j)) = true then some (deq (.int i) (.int j)) else none) = _
    rw [deq_int]
    rfl
  rw [this]
  rfl
theorem c_ne : RQ (cmpop .ne (.int i) (.int j) S) Q = Q (!decide (i = j)) S := by
  show RQ (M.opt ((eqM S (.int i) (.int j)).map (!·)) S) Q = _
  have : eqM S (.int i) (.int j) = some (decide (i = j)) := by
    show (if (pl 12 (.int i) && pl 12 (.int j)) = true then some (deq (.int i) (.int j)) else none) = _
    rw [deq_int]
    rfl
  rw [this]
  rfl
end
/-! each construct -/
def bodyF (C : Cal) (F : Nat) (b : Ss) : Env → Sto → RS := fun ρ S => evB C F b ρ S
def eltF (C : Cal) (e : E) : Env → M D := fun ρ => ev C e ρ
def tstF (C : Cal) (es : Es) : Env → M Bool := fun ρ => evT C es ρ
def cndF (C : Cal) (e : E) : Env → M Bool := fun ρ => (ev C e ρ).bind truM
section
variable {a b c : E} {es kes : Es} {Q : D → Sto → Prop} {QL : List D → Sto → Prop} {QB : Bool → Sto → Prop} {QS : Fl → Env → Sto → Prop} {i f : Nat}
theorem body_eq {b : Ss} : RSQ (bodyF C F b ρ S) QS = RSQ (evB C F b ρ S) QS := propext Iff.rfl
theorem elt_eq : RQ (eltF C a ρ S) Q = RQ (ev C a ρ S) Q := propext Iff.rfl
theorem tst_eq : RQ (tstF C es ρ S) QB = RQ (evT C es ρ S) QB := propext Iff.rfl
theorem cnd_eq : RQ (cndF C a ρ S) QB = RQ (ev C a ρ S) (fun d S' => RQ (truM d S') QB) := rq_bind
theorem w_loc : RQ (ev C (.loc i) ρ S) Q = RQ (M.opt (ρ[i]?.join) S) Q := propext Iff.rfl
theorem w_cst {d : D} : RQ (ev C (.cst d) ρ S) Q = Q d S := propext Iff.rfl
theorem w_gfn : RQ (ev C (.gfn f) ρ S) Q = Q (.fn f) S := propext Iff.rfl
theorem w_bin {op : BOp} : RQ (ev C (.bin op a b) ρ S) Q = RQ (ev C a ρ S) (fun x S1 => RQ (ev C b ρ S1) (fun y S2 => RQ (binop op x y S2) Q)) := by simp only [ev, rq_bind]
theorem w_neg : RQ (ev C (.neg a) ρ S) Q = RQ (ev C a ρ S) (fun x S1 => RQ (unopI (fun i => -i) x S1) Q) := rq_bind
theorem w_inv : RQ (ev C (.inv a) ρ S) Q = RQ (ev C a ρ S) (fun x S1 => RQ (unopI Builtin.bitNot x S1) Q) := rq_bind
theorem w_not : RQ (ev C (.not a) ρ S) Q = RQ (ev C a ρ S) (fun x S1 => RQ (truM x S1) (fun k S2 => Q (.bl (!k)) S2)) := by simp only [ev, rq_bind, rq_ret]
theorem w_cmp {op : COp} : RQ (ev C (.cmp op a b) ρ S) Q = RQ (ev C a ρ S) (fun x S1 => RQ (ev C b ρ S1) (fun y S2 => RQ (cmpop op x y S2) (fun k S3 => Q (.bl k) S3))) := by simp only [ev, rq_bind, rq_ret]
theorem w_chn {o1 o2 : COp} : RQ (ev C (.chn o1 o2 a b c) ρ S) Q = RQ (ev C a ρ S) (fun x S1 => RQ (ev C b ρ S1) (fun y S2 => RQ (cmpop o1 x y S2) (fun k S3 => if k = true then RQ (ev C c ρ S3) (fun z S4 => RQ (cmpop o2 y z S4) (fun k S5 => Q (.bl k) S5)) else Q (.bl false) S3))) := by simp only [ev, rq_bind, rq_ret, rq_ite]
theorem w_and : RQ (ev C (.and a b) ρ S) Q = RQ (ev C a ρ S) (fun x S1 => RQ (truM x S1) (fun k S2 => if k = true then RQ (ev C b ρ S2) Q else Q x S2)) := by simp only [ev, rq_bind, rq_ret, rq_ite]
theorem w_or : RQ (ev C (.or a b) ρ S) Q = RQ (ev C a ρ S) (fun x S1 => RQ (truM x S1) (fun k S2 => if k = true then Q x S2 else RQ (ev C b ρ S2) Q)) := by simp only [ev, rq_bind, rq_ret, rq_ite]
theorem w_iteE : RQ (ev C (.ite c a b) ρ S) Q = RQ (ev C c ρ S) (fun x S1 => RQ (truM x S1) (fun k S2 => if k = true then RQ (ev C a ρ S2) Q else RQ (ev C b ρ S2) Q)) := by simp only [ev, rq_bind, rq_ite]
theorem w_tup : RQ (ev C (.tup es) ρ S) Q = RQ (evs C es ρ S) (fun ds S1 => ds.length ≤ lim ∧ Q (.tup ds) S1) := by
  simp only [ev, rq_bind, rq_ite, rq_ret]
  congr
  funext ds S1
  split
  · rename_i h; exact propext ⟨fun q => ⟨h, q⟩, fun q => q.2⟩
  · rename_i h; exact propext ⟨fun q => q.elim, fun q => h q.1⟩
theorem w_lst {fz : Bool} : RQ (ev C (.lst fz es) ρ S) Q = RQ (evs C es ρ S) (fun ds S1 => RQ (newL fz ds S1) Q) := by simp only [ev, rq_bind]
theorem w_idx : RQ (ev C (.idx a b) ρ S) Q = RQ (ev C a ρ S) (fun x S1 => RQ (ev C b ρ S1) (fun y S2 => RQ (idxop x y S2) Q)) := by simp only [ev, rq_bind]
theorem w_slL : RQ (ev C (.slL a b) ρ S) Q = RQ (ev C a ρ S) (fun x S1 => RQ (ev C b ρ S1) (fun y S2 => RQ (M.opt (toInt y) S2) (fun i S3 => RQ (slcop x (some i) none S3) Q))) := by simp only [ev, rq_bind]
theorem w_slU : RQ (ev C (.slU a b) ρ S) Q = RQ (ev C a ρ S) (fun x S1 => RQ (ev C b ρ S1) (fun y S2 => RQ (M.opt (toInt y) S2) (fun i S3 => RQ (slcop x none (some i) S3) Q))) := by simp only [ev, rq_bind]
theorem w_slLU : RQ (ev C (.slLU a b c) ρ S) Q = RQ (ev C a ρ S) (fun x S1 => RQ (ev C b ρ S1) (fun y S2 => RQ (M.opt (toInt y) S2) (fun i S3 => RQ (ev C c ρ S3) (fun z S4 => RQ (M.opt (toInt z) S4) (fun j S5 => RQ (slcop x (some i) (some j) S5) Q))))) := by simp only [ev, rq_bind]
theorem w_rev : RQ (ev C (.rev a) ρ S) Q = RQ (ev C a ρ S) (fun x S1 => RQ (revop x S1) Q) := rq_bind
theorem w_call {ks : List Nat} : RQ (ev C (.call f es kes ks) ρ S) Q = RQ (evs C es ρ S) (fun ds S1 => RQ (evs C kes ρ S1) (fun zs S2 => RQ (C f ks (ds ++ zs) S2) Q)) := by simp only [ev, rq_bind]
theorem w_bi {b : BI} : RQ (ev C (.bi b es) ρ S) Q = RQ (evs C es ρ S) (fun ds S1 => RQ (biop b ds S1) Q) := by simp only [ev, rq_bind]
theorem w_me {m : ME} : RQ (ev C (.me m a es) ρ S) Q = RQ (ev C a ρ S) (fun x S1 => RQ (meck m x S1) (fun _ S2 => RQ (evs C es ρ S2) (fun ds S3 => RQ (meop m x ds S3) Q))) := by simp only [ev, rq_bind]
theorem w_comp {fz : Bool} {own : List Nat} {tg : T} {it : I} : RQ (ev C (.comp fz own a tg it es) ρ S) Q = RQ (evI C it ρ S) (fun ds S1 => RQ (compL tg (tstF C es) (eltF C a) (wipeE ρ own) ds 0 S1) (fun ys S2 => RQ (newL fz ys S2) Q)) := by
  simp only [ev, rq_bind, rq_calm]
  rfl
theorem w_nilS : RQ (evs C .nil ρ S) QL = QL [] S := propext Iff.rfl
theorem w_consS : RQ (evs C (.cons a es) ρ S) QL = RQ (ev C a ρ S) (fun d S1 => RQ (evs C es ρ S1) (fun ds S2 => QL (d :: ds) S2)) := by simp only [evs, rq_bind, rq_ret]
theorem w_nilT : RQ (evT C .nil ρ S) QB = QB true S := propext Iff.rfl
theorem w_consT : RQ (evT C (.cons a es) ρ S) QB = RQ (ev C a ρ S) (fun d S1 => RQ (truM d S1) (fun k S2 => if k = true then RQ (evT C es ρ S2) QB else QB false S2)) := by simp only [evT, rq_bind, rq_ret, rq_ite]
theorem w_iex : RQ (evI C (.ex a) ρ S) QL = RQ (ev C a ρ S) (fun d S1 => RQ (M.opt (items d) S1) QL) := rq_bind
theorem w_irng : RQ (evI C (.rng es) ρ S) QL = RQ (evs C es ρ S) (fun ds S1 => RQ (M.opt (rng ds) S1) QL) := rq_bind
theorem w_ienm : RQ (evI C (.enm a) ρ S) QL = RQ (ev C a ρ S) (fun d S1 => RQ (M.opt (items d) S1) (fun xs S2 => QL (enumL 0 xs) S2)) := by simp only [evI, rq_bind, rq_ret]
theorem w_izp : RQ (evI C (.zp a b) ρ S) QL = RQ (ev C a ρ S) (fun d S1 => RQ (ev C b ρ S1) (fun e S2 => RQ (M.opt (items d) S2) (fun xs S3 => RQ (M.opt (items e) S3) (fun ys S4 => QL (zipL xs ys) S4)))) := by simp only [evI, rq_bind, rq_ret]
theorem w_irv : RQ (evI C (.rv a) ρ S) QL = RQ (ev C a ρ S) (fun d S1 => RQ (M.opt (items d) S1) (fun xs S2 => QL xs.reverse S2)) := by simp only [evI, rq_bind, rq_ret]
theorem v_nil : RSQ (evB C F .nil ρ S) QS = QS .nx ρ S := propext Iff.rfl
theorem v_cons {s : Sm} {b : Ss} : RSQ (evB C F (.cons s b) ρ S) QS = RSQ (evS C F s ρ S) (q_on (bodyF C F b) QS) := rsq_seq
theorem v_pass : RSQ (evS C F .pass ρ S) QS = QS .nx ρ S := propext Iff.rfl
theorem v_brk : RSQ (evS C F .brk ρ S) QS = QS .bk ρ S := propext Iff.rfl
theorem v_cnt : RSQ (evS C F .cnt ρ S) QS = QS .ct ρ S := propext Iff.rfl
theorem v_never : RSQ (evS C F .never ρ S) QS = False := propext Iff.rfl
theorem v_set : RSQ (evS C F (.set i a) ρ S) QS = RQ (ev C a ρ S) (fun d S1 => QS .nx (ρ.set i (some d)) S1) := rsq_lift
def asgQ (tg : T) (ρ : Env) (QS : Fl → Env → Sto → Prop) (d : D) (S : Sto) : Prop := match asgT tg d ρ with
  | some ρ1 => QS .nx ρ1 S
  | none => False
theorem v_asg {tg : T} : RSQ (evS C F (.asg tg a) ρ S) QS = RQ (ev C a ρ S) (asgQ tg ρ QS) := by
  show RSQ (lift _ _ _ _) _ = _
  rw [rsq_lift]
  congr
  funext d S1
  unfold asgQ
  cases asgT tg d ρ <;> rfl
theorem asg_tp {is : List Nat} {ds : List D} : asgQ (.tp is) ρ QS (.tup ds) S = (match asgs is ds ρ with | some ρ1 => QS .nx ρ1 S | none => False) := rfl
theorem v_aug {op : BOp} : RSQ (evS C F (.aug i op a) ρ S) QS = RQ (M.opt (ρ[i]?.join) S) (fun x S1 => RQ (ev C a ρ S1) (fun y S2 => RQ (augop op x y S2) (fun d S3 => QS .nx (ρ.set i (some d)) S3))) := by
  show RSQ (lift _ _ _ _) _ = _
  rw [rsq_lift, rq_bind]
  simp only [rq_bind, rsq_ok]
theorem v_seti : RSQ (evS C F (.seti a b c) ρ S) QS = RQ (ev C c ρ S) (fun v S1 => RQ (ev C a ρ S1) (fun x S2 => RQ (ev C b ρ S2) (fun y S3 => RQ (setop x y v S3) (fun _ S4 => QS .nx ρ S4)))) := by
  show RSQ (lift _ _ _ _) _ = _
  rw [rsq_lift, rq_bind]
  simp only [rq_bind, rsq_ok]
theorem v_ex : RSQ (evS C F (.ex a) ρ S) QS = RQ (ev C a ρ S) (fun _ S1 => QS .nx ρ S1) := rsq_lift
theorem v_ret : RSQ (evS C F (.ret a) ρ S) QS = RQ (ev C a ρ S) (fun d S1 => QS (.rt d) ρ S1) := rsq_lift
theorem v_retN : RSQ (evS C F .retN ρ S) QS = QS (.rt .non) ρ S := propext Iff.rfl
theorem v_ite {x y : Ss} : RSQ (evS C F (.ite a x y) ρ S) QS = RQ (ev C a ρ S) (fun d S1 => RQ (truM d S1) (fun k S2 => if k = true then RSQ (evB C F x ρ S2) QS else RSQ (evB C F y ρ S2) QS)) := by
  show RSQ (lift _ _ _ _) _ = _
  rw [rsq_lift, rq_bind]
  simp only [q_if]
theorem v_whl {x : Ss} : RSQ (evS C F (.whl a x) ρ S) QS = RSQ (whlN (cndF C a) (bodyF C F x) F ρ S) QS := propext Iff.rfl
theorem v_for {tg : T} {it : I} {x : Ss} : RSQ (evS C F (.for tg it x) ρ S) QS = RQ (evI C it ρ S) (fun ds S1 => RSQ (forL tg (bodyF C F x) ds ρ S1) QS) := rsq_lift
end
/-- a call, by its end -/
theorem rq_fn {fn : Fn} {args : List D} {Q : D → Sto → Prop} : RQ (runFn C F fn args S) Q = RSQ (evB C F fn.body (args.map some ++ List.replicate (fn.ns - args.length) none) S) (fun fl _ S' => match fl with | .nx => Q .non S' | .rt d => Q d S' | _ => False) := by
  unfold runFn
  cases evB C F fn.body (args.map some ++ List.replicate (fn.ns - args.length) none) S with
  | ok fl ρ S1 => cases fl <;> rfl
  | exc _ _ _ _ => rfl
  | bad => rfl
/-- a for -/
theorem rsq_for {tg : T} {body : Env → Sto → RS} {Q : Fl → Env → Sto → Prop} (I : Nat → Env → Sto → Prop) {ds : List D} (h0 : I 0 ρ S)
    (step : ∀ (i : Nat) d ρ S, ds[i]? = some d → I i ρ S → ∃ ρ1, asgT tg d ρ = some ρ1 ∧ RSQ (body ρ1 S) (fun fl ρ2 S2 => match fl with | .nx => I (i + 1) ρ2 S2 | .ct => I (i + 1) ρ2 S2 | .bk => Q .nx ρ2 S2 | .rt d => Q (.rt d) ρ2 S2))
    (hend : ∀ ρ S, I ds.length ρ S → Q .nx ρ S) : RSQ (forL tg body ds ρ S) Q := by
  have main : ∀ (n i : Nat) (ρ : Env) (S : Sto), n + i = ds.length → I i ρ S → RSQ (forL tg body (ds.drop i) ρ S) Q := by
    intro n
    induction n with
    | zero =>
      intro i ρ S e h
      have : i = ds.length := by omega
      subst this
      rw [List.drop_length]
      exact hend ρ S h
    | succ n ih =>
      intro i ρ S e h
      have hlt : i < ds.length := by omega
      rw [List.drop_eq_getElem_cons hlt]
      obtain ⟨ρ1, h1, h2⟩ := step i _ ρ S (List.getElem?_eq_getElem hlt) h
      unfold forL
      rw [h1]
      dsimp only
      cases e2 : body ρ1 S with
      | bad => rw [e2] at h2; exact h2.elim
      | exc _ _ _ _ => rw [e2] at h2; exact h2.elim
      | ok fl ρ2 S2 =>
        rw [e2] at h2
        cases fl with
        | nx => exact ih (i + 1) ρ2 S2 (by omega) h2
        | ct => exact ih (i + 1) ρ2 S2 (by omega) h2
        | bk => exact h2
        | rt d => exact h2
  have := main ds.length 0 ρ S rfl h0
  rwa [List.drop_zero] at this
/-- a comprehension without a test: each item has P, the store keeps I -/
theorem rq_comp {tg : T} {elt : Env → M D} {Q : List D → Sto → Prop} (I : Nat → Sto → Prop) (P : Nat → D → Prop) {ds : List D} (hl : ds.length ≤ lim) (h0 : I 0 S)
    (step : ∀ (i : Nat) d S, ds[i]? = some d → I i S → ∃ ρ1, asgT tg d ρ = some ρ1 ∧ RQ (elt ρ1 S) (fun y S2 => P i y ∧ I (i + 1) S2))
    (hend : ∀ ys S, ys.length = ds.length → (∀ (i : Nat) y, ys[i]? = some y → P i y) → I ds.length S → Q ys S) : RQ (compL tg (tstF C .nil) elt ρ ds 0 S) Q := by
  show RQ (compL tg (fun _ => M.ret true) elt ρ ds 0 S) Q
  have main : ∀ (n i : Nat) (S : Sto) (Q : List D → Sto → Prop), n + i = ds.length → I i S → (∀ ys S, ys.length = n → (∀ (j : Nat) y, ys[j]? = some y → P (i + j) y) → I ds.length S → Q ys S) → RQ (compL tg (fun _ => M.ret true) elt ρ (ds.drop i) i S) Q := by
    intro n
    induction n with
    | zero =>
      intro i S Q e h k
      have : i = ds.length := by omega
      subst this
      rw [List.drop_length]
      exact k [] S rfl (fun j y e => by simp at e) h
    | succ n ih =>
      intro i S Q e h k
      have hlt : i < ds.length := by omega
      rw [List.drop_eq_getElem_cons hlt]
      obtain ⟨ρ1, h1, h2⟩ := step i _ S (List.getElem?_eq_getElem hlt) h
      unfold compL
      rw [h1]
      dsimp only
      show RQ (((M.ret true).bind fun b => if b then (elt ρ1).bind fun y => (if i < lim then (compL tg (fun _ => M.ret true) elt ρ (ds.drop (i + 1)) (i + 1)).bind fun ys => M.ret (y :: ys) else M.fail) else _) S) Q
      rw [rq_bind, rq_ret, if_pos rfl, rq_bind]
      refine h2.mono fun y S2 ⟨hp, hi⟩ => ?_
      rw [if_pos (by omega), rq_bind]
      refine ih (i + 1) S2 _ (by omega) hi fun ys S3 hy hpy hi3 => ?_
      rw [rq_ret]
      refine k (y :: ys) S3 (by simp [hy]) (fun j z e => ?_) hi3
      cases j with
      | zero => simp at e; subst e; exact hp
      | succ j =>
        have := hpy j z (by simpa using e)
        rwa [show i + 1 + j = i + (j + 1) by omega] at this
  exact main ds.length 0 S Q rfl h0 fun ys S hy hp hi => hend ys S hy (fun i y e => by have := hp i y e; rwa [Nat.zero_add] at this) hi
end
end PI

/-! the laws' own helpers -/
namespace PI
open PySem PySem.Spec PyProof.Rows L2
def ints' (R : List Int) : List D := R.map D.int
theorem pls_ints : ∀ (R : List Int) (n : Nat), pls n (R.map D.int) = true
  | [], _ => by simp [pls]
  | x :: R, n => by
    have h1 : pl n (D.int x) = true := by cases n <;> simp [pl]
    simp [pls, h1, pls_ints R n]
theorem deq_nil (xs : List D) : deq (.lst xs) (.lst []) = xs.isEmpty := by
  unfold deq
  cases xs <;> simp [toPy, toPys, PyData.eqv, PyData.eqvAll]
theorem eqM_nil {S : Sto} {a : D} {R : List Int} (h : deref S a = .lst (R.map D.int)) : eqM S a (.lst []) = some R.isEmpty := by
  unfold eqM
  rw [h]
  show (if (pl 12 (.lst (R.map D.int)) && pl 12 (.lst [])) = true then some (deq (.lst (R.map D.int)) (.lst [])) else none) = _
  have e1 : pl 12 (.lst (R.map D.int)) = true := by simp [pl, pls_ints]
  have e2 : pl 12 (.lst []) = true := by simp [pl, pls]
  rw [e1, e2, Bool.and_self, if_pos rfl, deq_nil]
  cases R <;> rfl
def Bx (S : Sto) (b : Nat) : Prop := ∃ (X : D) (R : List Int) (st : Int), S[b]? = some (.lst [X, .int st]) ∧ deref S X = .lst (R.map D.int) ∧ R.length ≤ 63
theorem deref_box {S : Sto} {b : Nat} {X : D} {st : Int} (h : S[b]? = some (.lst [X, .int st])) : deref S (.ref b) = .lst [X, .int st] := by
  show (match S[b]? with | some (.lst xs) => D.lst xs | _ => .ref b) = _
  rw [h]
theorem deref_set {S : Sto} {b : Nat} {X Y : D} {xs : List D} {o : O} (h0 : deref S X = .lst xs) (hb : X ≠ .ref b) : deref (S.set b o) X = .lst xs := by
  cases X with
  | ref r =>
    have hr : r ≠ b := fun e => hb (by rw [e])
    show (match (S.set b o)[r]? with | some (.lst xs) => D.lst xs | _ => .ref r) = _
    rw [List.getElem?_set_ne (Ne.symm hr)]
    exact h0
  | _ => exact h0
theorem box_ne {S : Sto} {b : Nat} {X : D} {st : Int} {R : List Int} (h : S[b]? = some (.lst [X, .int st])) (h0 : deref S X = .lst (R.map D.int)) : X ≠ .ref b := by
  intro e
  subst e
  rw [deref_box h] at h0
  injection h0 with h0
  cases R with
  | nil => cases h0
  | cons x R => injection h0 with h1 _; cases h1
theorem cut_map {α β : Type} (f : α → β) (xs : List α) (lo hi : Option Int) : cutL (xs.map f) lo hi = (cutL xs lo hi).map f := by
  unfold cutL
  rw [List.length_map, List.map_take, List.map_drop]
theorem cut_1 {α : Type} (x : α) (xs : List α) : cutL (x :: xs) (some 1) none = xs := by
  unfold cutL HT.sIx
  simp
section
variable {S : Sto} {ρ : Env} {C : Cal} {F : Nat}
theorem rq_idx {a : D} {xs : List D} {i : Int} {Q : D → Sto → Prop} (h : deref S a = .lst xs) : RQ (idxop a (.int i) S) Q = RQ (M.opt (atI xs i) S) Q := by
  unfold idxop
  rw [h]
theorem rq_idxT {xs : List D} {i : Int} {Q : D → Sto → Prop} : RQ (idxop (.tup xs) (.int i) S) Q = RQ (M.opt (atI xs i) S) Q := propext Iff.rfl
theorem rq_idxL {xs : List D} {i : Int} {Q : D → Sto → Prop} : RQ (idxop (.lst xs) (.int i) S) Q = RQ (M.opt (atI xs i) S) Q := propext Iff.rfl
theorem at_0 {α : Type} {x : α} {xs : List α} : atI (x :: xs) 0 = some x := by
  unfold atI ixN
  simp
theorem at_1 {α : Type} {x y : α} {xs : List α} : atI (x :: y :: xs) 1 = some y := by
  unfold atI ixN
  rw [if_pos (by omega), if_pos (by simp only [List.length_cons]; omega)]
  rfl
theorem rq_slc {a : D} {xs : List D} {lo hi : Option Int} {Q : D → Sto → Prop} (h : deref S a = .lst xs) : RQ (slcop a lo hi S) Q = Q (.lst (cutL xs lo hi)) S := by
  unfold slcop
  rw [h]
  rfl
theorem rq_slcT {xs : List D} {lo hi : Option Int} {Q : D → Sto → Prop} : RQ (slcop (.tup xs) lo hi S) Q = Q (.tup (cutL xs lo hi)) S := propext Iff.rfl
theorem rq_set {b : Nat} {xs : List D} {i : Int} {n : Nat} {v : D} {Q : Unit → Sto → Prop} (h : S[b]? = some (.lst xs)) (hi : ixN xs.length i = some n) : RQ (setop (.ref b) (.int i) v S) Q = Q () (S.set b (.lst (xs.set n v))) := by
  unfold setop
  dsimp only
  rw [h]
  dsimp only
  rw [hi]
  rfl
theorem b_lstS {a b : D} {xs ys : List D} {Q : D → Sto → Prop} (h1 : deref S a = .lst xs) (h2 : deref S b = .lst ys) : RQ (binop .add a b S) Q = (xs.length + ys.length ≤ lim ∧ Q (.lst (xs ++ ys)) S) := by
  unfold binop
  rw [h1, h2]
  dsimp only
  split
  · rename_i h; simp only [rq_ok, h, true_and]
  · rename_i h; simp only [RQ, h, false_and]
theorem c_neS {a b : D} {e : Bool} {Q : Bool → Sto → Prop} (h : eqM S a b = some e) : RQ (cmpop .ne a b S) Q = Q (!e) S := by
  show RQ (M.opt ((eqM S a b).map (!·)) S) Q = _
  rw [h]
  rfl
theorem c_eqS {a b : D} {e : Bool} {Q : Bool → Sto → Prop} (h : eqM S a b = some e) : RQ (cmpop .eq a b S) Q = Q e S := by
  show RQ (M.opt (eqM S a b) S) Q = _
  rw [h]
  rfl
end
theorem mul_r {i j : Int} (h : bits j < 64) : mulX i j := .inr (.inr h)
def bTake : Ss :=
 (.cons (.ite (.cmp .ne (.idx (.loc 0) (.cst (.int 0))) (.lst true .nil)) (.cons (.set 2 (.idx (.idx (.loc 0) (.cst (.int 0))) (.cst (.int 0))))
   (.cons (.seti (.loc 0) (.cst (.int 0)) (.bin .add (.ite (.cmp .ge (.loc 2) (.loc 1)) (.lst true (.cons (.bin .fdiv (.loc 2) (.loc 1)) .nil)) (.lst true .nil)) (.slL (.idx (.loc 0) (.cst (.int 0))) (.cst (.int 1)))))
   (.cons (.ret (.bin .mod (.bi .int (.cons (.loc 2) .nil)) (.loc 1))) .nil))) .nil)
  (.cons (.seti (.loc 0) (.cst (.int 1)) (.bin .mod (.bi .int (.cons (.bin .mul (.idx (.loc 0) (.cst (.int 1))) (.cst (.int 48271))) .nil)) (.cst (.int 2147483647))))
  (.cons (.ret (.bin .mod (.bi .int (.cons (.bin .fdiv (.bin .add (.bin .mul (.idx (.loc 0) (.cst (.int 1))) (.cst (.int 69621))) (.cst (.int 7))) (.cst (.int 1013))) .nil)) (.loc 1))) .nil)))
abbrev fTake : Fn := ⟨2, [], 3, bTake⟩
theorem newL_t {S : Sto} {xs : List D} {Q : D → Sto → Prop} (h : xs.length ≤ lim) : RQ (newL true xs S) Q = Q (.lst xs) S := by
  unfold newL
  rw [if_pos h, if_pos rfl]
  rfl
theorem newL_f {S : Sto} {xs : List D} {Q : D → Sto → Prop} (h : xs.length ≤ lim) : RQ (newL false xs S) Q = Q (.ref S.length) (S ++ [.lst xs]) := by
  unfold newL
  rw [if_pos h, if_neg (by decide)]
  rfl
theorem lim_val : lim = 16777216 := rfl
def InBx (b : Nat) (m : Int) (S : Sto) : D → Sto → Prop := fun d S' => ∃ r, d = .int r ∧ 0 ≤ r ∧ r < m ∧ Bx S' b ∧ ∃ o, S' = S.set b o
theorem take_ok {C : Cal} {F : Nat} {S : Sto} {b : Nat} {m : Int} (h : Bx S b) (hm : 0 < m) (hb : bits m < 9000) : RQ (runFn C F fTake [.ref b, .int m] S) (InBx b m S) := by
  obtain ⟨X, R, st, h1, h2, h3⟩ := h
  have hx := box_ne h1 h2
  have hd := deref_box h1
  rw [rq_fn]
  unfold fTake bTake
  simp only [PI.w_loc, PI.w_cst, PI.w_gfn, PI.w_bin, PI.w_neg, PI.w_inv, PI.w_not, PI.w_cmp, PI.w_chn, PI.w_and, PI.w_or, PI.w_iteE, PI.w_tup, PI.w_lst, PI.w_idx, PI.w_slL, PI.w_slU, PI.w_slLU, PI.w_rev, PI.w_call, PI.w_bi, PI.w_me, PI.w_comp, PI.w_nilS, PI.w_consS, PI.w_nilT, PI.w_consT, PI.w_iex, PI.w_irng, PI.w_ienm, PI.w_izp, PI.w_irv, PI.v_nil, PI.v_cons, PI.v_pass, PI.v_brk, PI.v_cnt, PI.v_never, PI.v_set, PI.v_asg, PI.asg_tp, PI.v_aug, PI.v_seti, PI.v_ex, PI.v_ret, PI.v_retN, PI.v_ite, PI.v_whl, PI.v_for, PI.body_eq, PI.rq_ret, PI.rq_opt, PI.rq_ok, PI.rsq_ok, PI.rq_truM, PI.q_nx, PI.q_rt, PI.q_bk, PI.q_ct, List.getElem?_cons_zero, List.getElem?_cons_succ, List.set_cons_zero, List.set_cons_succ, Option.join_some, wipeE, PI.b_add, PI.b_sub, PI.b_mul, PI.b_fdiv, PI.b_mod, PI.b_pow, PI.a_add, PI.a_sub, PI.a_mul, PI.u_int, PI.c_lt, PI.c_le, PI.c_gt, PI.c_ge, PI.c_is, PI.c_isn, PI.tru_bl, PI.tru_int, PI.t_abs, t_len_t, t_len_l, PI.t_int, PI.t_intb, PI.t_isi, PI.t_max2, PI.t_min2, List.map_cons, List.map_nil, List.append_nil, List.nil_append, List.cons_append, List.length_cons, List.length_nil, List.replicate_zero, List.replicate_succ, if_true, if_false, Bool.true_and, Bool.and_true, Bool.not_true, Bool.not_false, decide_true, decide_false, asgs, PI.q_if, reduceIte, reduceCtorEq, id_eq, Option.map_some, PI.rq_ite, toInt, Nat.reduceSub, Nat.reduceAdd, rq_idx hd, at_0, at_1, newL_t (show ([] : List D).length ≤ lim from Nat.zero_le _), c_neS (eqM_nil h2)]
  have hbl : b < S.length := (List.getElem?_eq_some_iff.mp h1).1
  have fin : ∀ (r : Int) (S' : Sto) (X' : D) (R' : List Int) (st' : Int), 0 ≤ r → r < m → S' = S.set b (.lst [X', .int st']) → deref S' X' = .lst (R'.map D.int) → R'.length ≤ 63 → InBx b m S (.int r) S' := by
    intro r S' X' R' st' k1 k2 k3 k4 k5
    exact ⟨r, rfl, k1, k2, ⟨X', R', st', by rw [k3]; exact List.getElem?_set_self hbl, k4, k5⟩, _, k3⟩
  cases R with
  | nil =>
    rw [show (![].isEmpty) = false from rfl, if_neg Bool.false_ne_true]
    refine ⟨mul_r (by decide), by decide, ?_⟩
    rw [rq_set (n := 1) h1 rfl]
    have h1' : (S.set b (.lst [X, .int (st * 48271 % 2147483647)]))[b]? = some (.lst [X, .int (st * 48271 % 2147483647)]) := List.getElem?_set_self hbl
    have hd' := deref_box h1'
    simp only [PI.w_loc, PI.w_cst, PI.w_gfn, PI.w_bin, PI.w_neg, PI.w_inv, PI.w_not, PI.w_cmp, PI.w_chn, PI.w_and, PI.w_or, PI.w_iteE, PI.w_tup, PI.w_lst, PI.w_idx, PI.w_slL, PI.w_slU, PI.w_slLU, PI.w_rev, PI.w_call, PI.w_bi, PI.w_me, PI.w_comp, PI.w_nilS, PI.w_consS, PI.w_nilT, PI.w_consT, PI.w_iex, PI.w_irng, PI.w_ienm, PI.w_izp, PI.w_irv, PI.v_nil, PI.v_cons, PI.v_pass, PI.v_brk, PI.v_cnt, PI.v_never, PI.v_set, PI.v_asg, PI.asg_tp, PI.v_aug, PI.v_seti, PI.v_ex, PI.v_ret, PI.v_retN, PI.v_ite, PI.v_whl, PI.v_for, PI.body_eq, PI.rq_ret, PI.rq_opt, PI.rq_ok, PI.rsq_ok, PI.rq_truM, PI.q_nx, PI.q_rt, PI.q_bk, PI.q_ct, List.getElem?_cons_zero, List.getElem?_cons_succ, List.set_cons_zero, List.set_cons_succ, Option.join_some, wipeE, PI.b_add, PI.b_sub, PI.b_mul, PI.b_fdiv, PI.b_mod, PI.b_pow, PI.a_add, PI.a_sub, PI.a_mul, PI.u_int, PI.c_lt, PI.c_le, PI.c_gt, PI.c_ge, PI.c_is, PI.c_isn, PI.tru_bl, PI.tru_int, PI.t_abs, t_len_t, t_len_l, PI.t_int, PI.t_intb, PI.t_isi, PI.t_max2, PI.t_min2, List.map_cons, List.map_nil, List.append_nil, List.nil_append, List.cons_append, List.length_cons, List.length_nil, List.replicate_zero, List.replicate_succ, if_true, if_false, Bool.true_and, Bool.and_true, Bool.not_true, Bool.not_false, decide_true, decide_false, asgs, PI.q_if, reduceIte, reduceCtorEq, id_eq, Option.map_some, PI.rq_ite, toInt, Nat.reduceSub, Nat.reduceAdd, rq_idx hd', at_1]
    exact ⟨mul_r (by decide), ⟨by decide, by decide⟩, hm, fin _ _ _ [] _ (Int.emod_nonneg _ (by omega)) (Int.emod_lt_of_pos _ hm) rfl (deref_set (Y := X) h2 hx) (by decide)⟩
  | cons c R =>
    rw [show (!(c :: R).isEmpty) = true from rfl, if_pos rfl]
    rw [List.map_cons] at h2
    have hlen : R.length ≤ 62 := by simp only [List.length_cons] at h3; omega
    have put : ∀ (A : List Int), A.length ≤ 1 → RQ (binop .add (.lst (A.map D.int)) (.lst (cutL (D.int c :: R.map D.int) (some 1) none)) S) fun a_6 S' => RQ (setop (.ref b) (.int 0) a_6 S') fun a_7 S' => RQ (biop .int [.int c] S') fun a S' => RQ (binop .mod a (.int m) S') fun a S' => InBx b m S a S' := by
      intro A hA
      rw [cut_1, b_lst, List.length_map, List.length_map, lim_val]
      refine ⟨by omega, ?_⟩
      rw [rq_set (n := 0) h1 rfl]
      simp only [PI.w_loc, PI.w_cst, PI.w_gfn, PI.w_bin, PI.w_neg, PI.w_inv, PI.w_not, PI.w_cmp, PI.w_chn, PI.w_and, PI.w_or, PI.w_iteE, PI.w_tup, PI.w_lst, PI.w_idx, PI.w_slL, PI.w_slU, PI.w_slLU, PI.w_rev, PI.w_call, PI.w_bi, PI.w_me, PI.w_comp, PI.w_nilS, PI.w_consS, PI.w_nilT, PI.w_consT, PI.w_iex, PI.w_irng, PI.w_ienm, PI.w_izp, PI.w_irv, PI.v_nil, PI.v_cons, PI.v_pass, PI.v_brk, PI.v_cnt, PI.v_never, PI.v_set, PI.v_asg, PI.asg_tp, PI.v_aug, PI.v_seti, PI.v_ex, PI.v_ret, PI.v_retN, PI.v_ite, PI.v_whl, PI.v_for, PI.body_eq, PI.rq_ret, PI.rq_opt, PI.rq_ok, PI.rsq_ok, PI.rq_truM, PI.q_nx, PI.q_rt, PI.q_bk, PI.q_ct, List.getElem?_cons_zero, List.getElem?_cons_succ, List.set_cons_zero, List.set_cons_succ, Option.join_some, wipeE, PI.b_add, PI.b_sub, PI.b_mul, PI.b_fdiv, PI.b_mod, PI.b_pow, PI.a_add, PI.a_sub, PI.a_mul, PI.u_int, PI.c_lt, PI.c_le, PI.c_gt, PI.c_ge, PI.c_is, PI.c_isn, PI.tru_bl, PI.tru_int, PI.t_abs, t_len_t, t_len_l, PI.t_int, PI.t_intb, PI.t_isi, PI.t_max2, PI.t_min2, List.map_cons, List.map_nil, List.append_nil, List.nil_append, List.cons_append, List.length_cons, List.length_nil, List.replicate_zero, List.replicate_succ, if_true, if_false, Bool.true_and, Bool.and_true, Bool.not_true, Bool.not_false, decide_true, decide_false, asgs, PI.q_if, reduceIte, reduceCtorEq, id_eq, Option.map_some, PI.rq_ite, toInt, Nat.reduceSub, Nat.reduceAdd]
      exact ⟨hm, fin _ _ _ (A ++ R) _ (Int.emod_nonneg _ (by omega)) (Int.emod_lt_of_pos _ hm) rfl (by rw [List.map_append]; rfl) (by rw [List.length_append]; omega)⟩
    rw [rq_idx h2, at_0]
    simp only [PI.w_loc, PI.w_cst, PI.w_gfn, PI.w_bin, PI.w_neg, PI.w_inv, PI.w_not, PI.w_cmp, PI.w_chn, PI.w_and, PI.w_or, PI.w_iteE, PI.w_tup, PI.w_lst, PI.w_idx, PI.w_slL, PI.w_slU, PI.w_slLU, PI.w_rev, PI.w_call, PI.w_bi, PI.w_me, PI.w_comp, PI.w_nilS, PI.w_consS, PI.w_nilT, PI.w_consT, PI.w_iex, PI.w_irng, PI.w_ienm, PI.w_izp, PI.w_irv, PI.v_nil, PI.v_cons, PI.v_pass, PI.v_brk, PI.v_cnt, PI.v_never, PI.v_set, PI.v_asg, PI.asg_tp, PI.v_aug, PI.v_seti, PI.v_ex, PI.v_ret, PI.v_retN, PI.v_ite, PI.v_whl, PI.v_for, PI.body_eq, PI.rq_ret, PI.rq_opt, PI.rq_ok, PI.rsq_ok, PI.rq_truM, PI.q_nx, PI.q_rt, PI.q_bk, PI.q_ct, List.getElem?_cons_zero, List.getElem?_cons_succ, List.set_cons_zero, List.set_cons_succ, Option.join_some, wipeE, PI.b_add, PI.b_sub, PI.b_mul, PI.b_fdiv, PI.b_mod, PI.b_pow, PI.a_add, PI.a_sub, PI.a_mul, PI.u_int, PI.c_lt, PI.c_le, PI.c_gt, PI.c_ge, PI.c_is, PI.c_isn, PI.tru_bl, PI.tru_int, PI.t_abs, t_len_t, t_len_l, PI.t_int, PI.t_intb, PI.t_isi, PI.t_max2, PI.t_min2, List.map_cons, List.map_nil, List.append_nil, List.nil_append, List.cons_append, List.length_cons, List.length_nil, List.replicate_zero, List.replicate_succ, if_true, if_false, Bool.true_and, Bool.and_true, Bool.not_true, Bool.not_false, decide_true, decide_false, asgs, PI.q_if, reduceIte, reduceCtorEq, id_eq, Option.map_some, PI.rq_ite, toInt, Nat.reduceSub, Nat.reduceAdd]
    split
    · refine ⟨⟨hm, hb⟩, ?_⟩
      rw [newL_t (by rw [lim_val]; exact (by decide : 1 ≤ 16777216)), rq_idx hd, at_0]
      simp only [PI.w_loc, PI.w_cst, PI.w_gfn, PI.w_bin, PI.w_neg, PI.w_inv, PI.w_not, PI.w_cmp, PI.w_chn, PI.w_and, PI.w_or, PI.w_iteE, PI.w_tup, PI.w_lst, PI.w_idx, PI.w_slL, PI.w_slU, PI.w_slLU, PI.w_rev, PI.w_call, PI.w_bi, PI.w_me, PI.w_comp, PI.w_nilS, PI.w_consS, PI.w_nilT, PI.w_consT, PI.w_iex, PI.w_irng, PI.w_ienm, PI.w_izp, PI.w_irv, PI.v_nil, PI.v_cons, PI.v_pass, PI.v_brk, PI.v_cnt, PI.v_never, PI.v_set, PI.v_asg, PI.asg_tp, PI.v_aug, PI.v_seti, PI.v_ex, PI.v_ret, PI.v_retN, PI.v_ite, PI.v_whl, PI.v_for, PI.body_eq, PI.rq_ret, PI.rq_opt, PI.rq_ok, PI.rsq_ok, PI.rq_truM, PI.q_nx, PI.q_rt, PI.q_bk, PI.q_ct, List.getElem?_cons_zero, List.getElem?_cons_succ, List.set_cons_zero, List.set_cons_succ, Option.join_some, wipeE, PI.b_add, PI.b_sub, PI.b_mul, PI.b_fdiv, PI.b_mod, PI.b_pow, PI.a_add, PI.a_sub, PI.a_mul, PI.u_int, PI.c_lt, PI.c_le, PI.c_gt, PI.c_ge, PI.c_is, PI.c_isn, PI.tru_bl, PI.tru_int, PI.t_abs, t_len_t, t_len_l, PI.t_int, PI.t_intb, PI.t_isi, PI.t_max2, PI.t_min2, List.map_cons, List.map_nil, List.append_nil, List.nil_append, List.cons_append, List.length_cons, List.length_nil, List.replicate_zero, List.replicate_succ, if_true, if_false, Bool.true_and, Bool.and_true, Bool.not_true, Bool.not_false, decide_true, decide_false, asgs, PI.q_if, reduceIte, reduceCtorEq, id_eq, Option.map_some, PI.rq_ite, toInt, Nat.reduceSub, Nat.reduceAdd, rq_slc h2]
      have := put [c / m] (Nat.le_refl _)
      simp only [PI.w_loc, PI.w_cst, PI.w_gfn, PI.w_bin, PI.w_neg, PI.w_inv, PI.w_not, PI.w_cmp, PI.w_chn, PI.w_and, PI.w_or, PI.w_iteE, PI.w_tup, PI.w_lst, PI.w_idx, PI.w_slL, PI.w_slU, PI.w_slLU, PI.w_rev, PI.w_call, PI.w_bi, PI.w_me, PI.w_comp, PI.w_nilS, PI.w_consS, PI.w_nilT, PI.w_consT, PI.w_iex, PI.w_irng, PI.w_ienm, PI.w_izp, PI.w_irv, PI.v_nil, PI.v_cons, PI.v_pass, PI.v_brk, PI.v_cnt, PI.v_never, PI.v_set, PI.v_asg, PI.asg_tp, PI.v_aug, PI.v_seti, PI.v_ex, PI.v_ret, PI.v_retN, PI.v_ite, PI.v_whl, PI.v_for, PI.body_eq, PI.rq_ret, PI.rq_opt, PI.rq_ok, PI.rsq_ok, PI.rq_truM, PI.q_nx, PI.q_rt, PI.q_bk, PI.q_ct, List.getElem?_cons_zero, List.getElem?_cons_succ, List.set_cons_zero, List.set_cons_succ, Option.join_some, wipeE, PI.b_add, PI.b_sub, PI.b_mul, PI.b_fdiv, PI.b_mod, PI.b_pow, PI.a_add, PI.a_sub, PI.a_mul, PI.u_int, PI.c_lt, PI.c_le, PI.c_gt, PI.c_ge, PI.c_is, PI.c_isn, PI.tru_bl, PI.tru_int, PI.t_abs, t_len_t, t_len_l, PI.t_int, PI.t_intb, PI.t_isi, PI.t_max2, PI.t_min2, List.map_cons, List.map_nil, List.append_nil, List.nil_append, List.cons_append, List.length_cons, List.length_nil, List.replicate_zero, List.replicate_succ, if_true, if_false, Bool.true_and, Bool.and_true, Bool.not_true, Bool.not_false, decide_true, decide_false, asgs, PI.q_if, reduceIte, reduceCtorEq, id_eq, Option.map_some, PI.rq_ite, toInt, Nat.reduceSub, Nat.reduceAdd] at this
      exact this
    · rw [rq_idx hd, at_0]
      simp only [PI.w_loc, PI.w_cst, PI.w_gfn, PI.w_bin, PI.w_neg, PI.w_inv, PI.w_not, PI.w_cmp, PI.w_chn, PI.w_and, PI.w_or, PI.w_iteE, PI.w_tup, PI.w_lst, PI.w_idx, PI.w_slL, PI.w_slU, PI.w_slLU, PI.w_rev, PI.w_call, PI.w_bi, PI.w_me, PI.w_comp, PI.w_nilS, PI.w_consS, PI.w_nilT, PI.w_consT, PI.w_iex, PI.w_irng, PI.w_ienm, PI.w_izp, PI.w_irv, PI.v_nil, PI.v_cons, PI.v_pass, PI.v_brk, PI.v_cnt, PI.v_never, PI.v_set, PI.v_asg, PI.asg_tp, PI.v_aug, PI.v_seti, PI.v_ex, PI.v_ret, PI.v_retN, PI.v_ite, PI.v_whl, PI.v_for, PI.body_eq, PI.rq_ret, PI.rq_opt, PI.rq_ok, PI.rsq_ok, PI.rq_truM, PI.q_nx, PI.q_rt, PI.q_bk, PI.q_ct, List.getElem?_cons_zero, List.getElem?_cons_succ, List.set_cons_zero, List.set_cons_succ, Option.join_some, wipeE, PI.b_add, PI.b_sub, PI.b_mul, PI.b_fdiv, PI.b_mod, PI.b_pow, PI.a_add, PI.a_sub, PI.a_mul, PI.u_int, PI.c_lt, PI.c_le, PI.c_gt, PI.c_ge, PI.c_is, PI.c_isn, PI.tru_bl, PI.tru_int, PI.t_abs, t_len_t, t_len_l, PI.t_int, PI.t_intb, PI.t_isi, PI.t_max2, PI.t_min2, List.map_cons, List.map_nil, List.append_nil, List.nil_append, List.cons_append, List.length_cons, List.length_nil, List.replicate_zero, List.replicate_succ, if_true, if_false, Bool.true_and, Bool.and_true, Bool.not_true, Bool.not_false, decide_true, decide_false, asgs, PI.q_if, reduceIte, reduceCtorEq, id_eq, Option.map_some, PI.rq_ite, toInt, Nat.reduceSub, Nat.reduceAdd, rq_slc h2]
      have := put [] (Nat.zero_le _)
      simp only [PI.w_loc, PI.w_cst, PI.w_gfn, PI.w_bin, PI.w_neg, PI.w_inv, PI.w_not, PI.w_cmp, PI.w_chn, PI.w_and, PI.w_or, PI.w_iteE, PI.w_tup, PI.w_lst, PI.w_idx, PI.w_slL, PI.w_slU, PI.w_slLU, PI.w_rev, PI.w_call, PI.w_bi, PI.w_me, PI.w_comp, PI.w_nilS, PI.w_consS, PI.w_nilT, PI.w_consT, PI.w_iex, PI.w_irng, PI.w_ienm, PI.w_izp, PI.w_irv, PI.v_nil, PI.v_cons, PI.v_pass, PI.v_brk, PI.v_cnt, PI.v_never, PI.v_set, PI.v_asg, PI.asg_tp, PI.v_aug, PI.v_seti, PI.v_ex, PI.v_ret, PI.v_retN, PI.v_ite, PI.v_whl, PI.v_for, PI.body_eq, PI.rq_ret, PI.rq_opt, PI.rq_ok, PI.rsq_ok, PI.rq_truM, PI.q_nx, PI.q_rt, PI.q_bk, PI.q_ct, List.getElem?_cons_zero, List.getElem?_cons_succ, List.set_cons_zero, List.set_cons_succ, Option.join_some, wipeE, PI.b_add, PI.b_sub, PI.b_mul, PI.b_fdiv, PI.b_mod, PI.b_pow, PI.a_add, PI.a_sub, PI.a_mul, PI.u_int, PI.c_lt, PI.c_le, PI.c_gt, PI.c_ge, PI.c_is, PI.c_isn, PI.tru_bl, PI.tru_int, PI.t_abs, t_len_t, t_len_l, PI.t_int, PI.t_intb, PI.t_isi, PI.t_max2, PI.t_min2, List.map_cons, List.map_nil, List.append_nil, List.nil_append, List.cons_append, List.length_cons, List.length_nil, List.replicate_zero, List.replicate_succ, if_true, if_false, Bool.true_and, Bool.and_true, Bool.not_true, Bool.not_false, decide_true, decide_false, asgs, PI.q_if, reduceIte, reduceCtorEq, id_eq, Option.map_some, PI.rq_ite, toInt, Nat.reduceSub, Nat.reduceAdd] at this
      exact this
/-! pick -/
def bPick (ft : Nat) : Ss :=
 (.cons (.ret (.idx (.loc 1) (.call ft (.cons (.loc 0) (.cons (.bi .len (.cons (.loc 1) .nil)) .nil)) .nil []))) .nil)
abbrev fPick (ft : Nat) : Fn := ⟨2, [], 2, bPick ft⟩
def Takes1 (C : Cal) (ft b : Nat) : Prop := ∀ (S : Sto) (m : Int), Bx S b → 0 < m → bits m < 9000 → RQ (C ft [] [.ref b, .int m] S) (InBx b m S)
theorem bits_small {j : Int} {n : Nat} (h : j.natAbs < 2 ^ n) (hn : 0 < n) : bits j < n := by
  unfold bits
  by_cases e : j.natAbs = 0
  · rw [e]
    exact hn
  · exact (Nat.log2_lt e).mpr h
theorem bits_le {j : Int} (n : Nat) (h : j.natAbs < 2 ^ n) : bits j ≤ n := by
  unfold bits
  by_cases e : j.natAbs = 0
  · rw [e]
    exact Nat.zero_le _
  · exact Nat.le_of_lt ((Nat.log2_lt e).mpr h)
theorem atI_mem {xs : List D} {r : Int} (h0 : 0 ≤ r) (h1 : r < xs.length) : ∃ d, atI xs r = some d ∧ d ∈ xs := by
  unfold atI ixN
  rw [if_pos h0, if_pos h1]
  have hl : r.toNat < xs.length := by omega
  exact ⟨xs[r.toNat], by simp [List.getElem?_eq_getElem hl], List.getElem_mem hl⟩
theorem pick_ok {C : Cal} {F ft b : Nat} {S : Sto} {xs : List D} (hC : Takes1 C ft b) (h : Bx S b) (h1 : xs ≠ []) (h2 : xs.length < 1000) : RQ (runFn C F (fPick ft) [.ref b, .lst xs] S) (fun d S' => d ∈ xs ∧ Bx S' b ∧ ∃ o, S' = S.set b o) := by
  have hl : 0 < xs.length := List.length_pos_iff.mpr h1
  rw [rq_fn]
  unfold fPick bPick
  simp only [PI.w_loc, PI.w_cst, PI.w_gfn, PI.w_bin, PI.w_neg, PI.w_inv, PI.w_not, PI.w_cmp, PI.w_chn, PI.w_and, PI.w_or, PI.w_iteE, PI.w_tup, PI.w_lst, PI.w_idx, PI.w_slL, PI.w_slU, PI.w_slLU, PI.w_rev, PI.w_call, PI.w_bi, PI.w_me, PI.w_comp, PI.w_nilS, PI.w_consS, PI.w_nilT, PI.w_consT, PI.w_iex, PI.w_irng, PI.w_ienm, PI.w_izp, PI.w_irv, PI.v_nil, PI.v_cons, PI.v_pass, PI.v_brk, PI.v_cnt, PI.v_never, PI.v_set, PI.v_asg, PI.asg_tp, PI.v_aug, PI.v_seti, PI.v_ex, PI.v_ret, PI.v_retN, PI.v_ite, PI.v_whl, PI.v_for, PI.body_eq, PI.rq_ret, PI.rq_opt, PI.rq_ok, PI.rsq_ok, PI.rq_truM, PI.q_nx, PI.q_rt, PI.q_bk, PI.q_ct, List.getElem?_cons_zero, List.getElem?_cons_succ, List.set_cons_zero, List.set_cons_succ, Option.join_some, wipeE, PI.b_add, PI.b_sub, PI.b_mul, PI.b_fdiv, PI.b_mod, PI.b_pow, PI.a_add, PI.a_sub, PI.a_mul, PI.u_int, PI.c_lt, PI.c_le, PI.c_gt, PI.c_ge, PI.c_is, PI.c_isn, PI.tru_bl, PI.tru_int, PI.t_abs, t_len_t, t_len_l, PI.t_int, PI.t_intb, PI.t_isi, PI.t_max2, PI.t_min2, List.map_cons, List.map_nil, List.append_nil, List.nil_append, List.cons_append, List.length_cons, List.length_nil, List.replicate_zero, List.replicate_succ, if_true, if_false, Bool.true_and, Bool.and_true, Bool.not_true, Bool.not_false, decide_true, decide_false, asgs, PI.q_if, reduceIte, reduceCtorEq, id_eq, Option.map_some, PI.rq_ite, toInt, Nat.reduceSub, Nat.reduceAdd]
  refine (hC S xs.length h (by omega) (Nat.lt_of_le_of_lt (bits_le 10 (by rw [Int.natAbs_natCast]; omega)) (by decide))).mono ?_
  rintro _ S' ⟨r, rfl, k1, k2, k3, k4⟩
  obtain ⟨d, e1, e2⟩ := atI_mem k1 k2
  rw [rq_idxL, e1]
  exact ⟨e2, k3, k4⟩
/-! is -/
def bIs (fi : Nat) : Ss :=
 (.cons (.ite (.bi (.isi .tup) (.cons (.loc 1) .nil)) (.cons (.ite (.or (.not (.bi (.isi .tup) (.cons (.loc 0) .nil))) (.cmp .ne (.bi .len (.cons (.loc 0) .nil)) (.bi .len (.cons (.loc 1) .nil)))) (.cons (.ret (.cst (.bl false))) .nil) .nil)
   (.cons (.ret (.cmp .eq (.comp true [2, 3] (.cst (.int 1)) (.tp [2, 3]) (.zp (.loc 0) (.loc 1)) (.cons (.not (.call fi (.cons (.loc 2) (.cons (.loc 3) .nil)) .nil [])) .nil)) (.lst true .nil))) .nil)) .nil)
  (.cons (.ite (.or (.cmp .is (.loc 1) (.cst .non)) (.or (.cmp .is (.loc 1) (.cst (.bl true))) (.cmp .is (.loc 1) (.cst (.bl false))))) (.cons (.ret (.ite (.cmp .is (.loc 1) (.cst .non)) (.cmp .is (.loc 0) (.cst .non)) (.ite (.cmp .is (.loc 1) (.cst (.bl true))) (.cmp .is (.loc 0) (.cst (.bl true))) (.cmp .is (.loc 0) (.cst (.bl false)))))) .nil) .nil)
  (.cons (.ite (.bi (.isi .int) (.cons (.loc 1) .nil)) (.cons (.ret (.and (.bi (.isi .int) (.cons (.loc 0) .nil)) (.and (.not (.bi (.isi .bool) (.cons (.loc 0) .nil))) (.cmp .eq (.loc 0) (.loc 1))))) .nil) .nil)
  (.cons (.ret (.and (.bi (.isi .str) (.cons (.loc 1) .nil)) (.and (.bi (.isi .str) (.cons (.loc 0) .nil)) (.cmp .eq (.loc 0) (.loc 1))))) .nil))))
abbrev fIs (fi : Nat) : Fn := ⟨2, [], 4, bIs fi⟩
mutual
def tp : Nat → D → Bool
  | _, .non => true
  | _, .bl _ => true
  | _, .int _ => true
  | n + 1, .tup xs => tps n xs
  | _, _ => false
def tps : Nat → List D → Bool
  | _, [] => true
  | n, x :: xs => tp n x && tps n xs
end
theorem is_zip {C : Cal} {fi n : Nat} {p q : Option D} (ih : ∀ d S, tp n d = true → C fi [] [d, d] S = .ok (.bl true) S) : ∀ {xs : List D} {S : Sto} {m : Nat}, tps n xs = true → RQ (compL (.tp [2, 3]) (tstF C (.cons (.not (.call fi (.cons (.loc 2) (.cons (.loc 3) .nil)) .nil [])) .nil)) (eltF C (.cst (.int 1))) [p, q, none, none] (zipL xs xs) m S) fun ys S' => ys = [] ∧ S' = S
  | [], S, m, _ => ⟨rfl, rfl⟩
  | x :: xs, S, m, h => by
    have h' : tp n x = true ∧ tps n xs = true := by simpa [tps] using h
    show RQ (compL (.tp [2, 3]) (tstF C (.cons (.not (.call fi (.cons (.loc 2) (.cons (.loc 3) .nil)) .nil [])) .nil)) (eltF C (.cst (.int 1))) [p, q, none, none] (.tup [x, x] :: zipL xs xs) m S) _
    unfold compL
    simp only [PI.w_loc, PI.w_cst, PI.w_gfn, PI.w_bin, PI.w_neg, PI.w_inv, PI.w_not, PI.w_cmp, PI.w_chn, PI.w_and, PI.w_or, PI.w_iteE, PI.w_tup, PI.w_lst, PI.w_idx, PI.w_slL, PI.w_slU, PI.w_slLU, PI.w_rev, PI.w_call, PI.w_bi, PI.w_me, PI.w_comp, PI.w_nilS, PI.w_consS, PI.w_nilT, PI.w_consT, PI.w_iex, PI.w_irng, PI.w_ienm, PI.w_izp, PI.w_irv, PI.v_nil, PI.v_cons, PI.v_pass, PI.v_brk, PI.v_cnt, PI.v_never, PI.v_set, PI.v_asg, PI.asg_tp, PI.v_aug, PI.v_seti, PI.v_ex, PI.v_ret, PI.v_retN, PI.v_ite, PI.v_whl, PI.v_for, PI.body_eq, PI.rq_ret, PI.rq_opt, PI.rq_ok, PI.rsq_ok, PI.rq_truM, PI.q_nx, PI.q_rt, PI.q_bk, PI.q_ct, List.getElem?_cons_zero, List.getElem?_cons_succ, List.set_cons_zero, List.set_cons_succ, Option.join_some, wipeE, PI.b_add, PI.b_sub, PI.b_mul, PI.b_fdiv, PI.b_mod, PI.b_pow, PI.a_add, PI.a_sub, PI.a_mul, PI.u_int, PI.c_lt, PI.c_le, PI.c_gt, PI.c_ge, PI.c_is, PI.c_isn, PI.tru_bl, PI.tru_int, PI.t_abs, t_len_t, t_len_l, PI.t_int, PI.t_intb, PI.t_isi, PI.t_max2, PI.t_min2, List.map_cons, List.map_nil, List.append_nil, List.nil_append, List.cons_append, List.length_cons, List.length_nil, List.replicate_zero, List.replicate_succ, if_true, if_false, Bool.true_and, Bool.and_true, Bool.not_true, Bool.not_false, decide_true, decide_false, asgs, PI.q_if, reduceIte, reduceCtorEq, id_eq, Option.map_some, PI.rq_ite, toInt, Nat.reduceSub, Nat.reduceAdd, ih x _ h'.1, asgT, rq_bind, tst_eq]
    exact is_zip ih h'.2
theorem eqM_nn {S : Sto} : eqM S (.lst []) (.lst []) = some true := eqM_nil (R := []) rfl
theorem is_ok {C : Nat → Cal} {F fi : Nat} (hC : ∀ k S args, args.length = 2 → C (k + 1) fi [] args S = runFn (C k) F (fIs fi) args S) : ∀ (n : Nat) (d : D) (k : Nat) (S : Sto), tp n d = true → C (k + n + 1) fi [] [d, d] S = .ok (.bl true) S := by
  have key : ∀ (n k : Nat) (d : D) (S : Sto), RQ (runFn (C k) F (fIs fi) [d, d] S) (fun r S' => r = .bl true ∧ S' = S) → C (k + 1) fi [] [d, d] S = .ok (.bl true) S := by
    intro n k d S h
    rw [hC k S _ rfl]
    obtain ⟨a, S', e, rfl, rfl⟩ := h.ex
    exact e
  have flat : ∀ (n : Nat) (d : D) (k : Nat) (S : Sto), (∀ xs, d ≠ .tup xs) → tp n d = true → C (k + n + 1) fi [] [d, d] S = .ok (.bl true) S := by
    intro n d k S hd h
    refine key n _ d S ?_
    rw [rq_fn]
    unfold fIs bIs
    cases d with
    | non =>
      simp only [PI.w_loc, PI.w_cst, PI.w_gfn, PI.w_bin, PI.w_neg, PI.w_inv, PI.w_not, PI.w_cmp, PI.w_chn, PI.w_and, PI.w_or, PI.w_iteE, PI.w_tup, PI.w_lst, PI.w_idx, PI.w_slL, PI.w_slU, PI.w_slLU, PI.w_rev, PI.w_call, PI.w_bi, PI.w_me, PI.w_comp, PI.w_nilS, PI.w_consS, PI.w_nilT, PI.w_consT, PI.w_iex, PI.w_irng, PI.w_ienm, PI.w_izp, PI.w_irv, PI.v_nil, PI.v_cons, PI.v_pass, PI.v_brk, PI.v_cnt, PI.v_never, PI.v_set, PI.v_asg, PI.asg_tp, PI.v_aug, PI.v_seti, PI.v_ex, PI.v_ret, PI.v_retN, PI.v_ite, PI.v_whl, PI.v_for, PI.body_eq, PI.rq_ret, PI.rq_opt, PI.rq_ok, PI.rsq_ok, PI.rq_truM, PI.q_nx, PI.q_rt, PI.q_bk, PI.q_ct, List.getElem?_cons_zero, List.getElem?_cons_succ, List.set_cons_zero, List.set_cons_succ, Option.join_some, wipeE, PI.b_add, PI.b_sub, PI.b_mul, PI.b_fdiv, PI.b_mod, PI.b_pow, PI.a_add, PI.a_sub, PI.a_mul, PI.u_int, PI.c_lt, PI.c_le, PI.c_gt, PI.c_ge, PI.c_is, PI.c_isn, PI.tru_bl, PI.tru_int, PI.t_abs, t_len_t, t_len_l, PI.t_int, PI.t_intb, PI.t_isi, PI.t_max2, PI.t_min2, List.map_cons, List.map_nil, List.append_nil, List.nil_append, List.cons_append, List.length_cons, List.length_nil, List.replicate_zero, List.replicate_succ, if_true, if_false, Bool.true_and, Bool.and_true, Bool.not_true, Bool.not_false, decide_true, decide_false, asgs, PI.q_if, reduceIte, reduceCtorEq, id_eq, Option.map_some, PI.rq_ite, toInt, Nat.reduceSub, Nat.reduceAdd, deref, tyIs, isNon, isBl]
      first | exact ⟨rfl, rfl⟩ | exact ⟨trivial, trivial⟩ | simp
    | bl b =>
      cases b <;>
      · simp only [PI.w_loc, PI.w_cst, PI.w_gfn, PI.w_bin, PI.w_neg, PI.w_inv, PI.w_not, PI.w_cmp, PI.w_chn, PI.w_and, PI.w_or, PI.w_iteE, PI.w_tup, PI.w_lst, PI.w_idx, PI.w_slL, PI.w_slU, PI.w_slLU, PI.w_rev, PI.w_call, PI.w_bi, PI.w_me, PI.w_comp, PI.w_nilS, PI.w_consS, PI.w_nilT, PI.w_consT, PI.w_iex, PI.w_irng, PI.w_ienm, PI.w_izp, PI.w_irv, PI.v_nil, PI.v_cons, PI.v_pass, PI.v_brk, PI.v_cnt, PI.v_never, PI.v_set, PI.v_asg, PI.asg_tp, PI.v_aug, PI.v_seti, PI.v_ex, PI.v_ret, PI.v_retN, PI.v_ite, PI.v_whl, PI.v_for, PI.body_eq, PI.rq_ret, PI.rq_opt, PI.rq_ok, PI.rsq_ok, PI.rq_truM, PI.q_nx, PI.q_rt, PI.q_bk, PI.q_ct, List.getElem?_cons_zero, List.getElem?_cons_succ, List.set_cons_zero, List.set_cons_succ, Option.join_some, wipeE, PI.b_add, PI.b_sub, PI.b_mul, PI.b_fdiv, PI.b_mod, PI.b_pow, PI.a_add, PI.a_sub, PI.a_mul, PI.u_int, PI.c_lt, PI.c_le, PI.c_gt, PI.c_ge, PI.c_is, PI.c_isn, PI.tru_bl, PI.tru_int, PI.t_abs, t_len_t, t_len_l, PI.t_int, PI.t_intb, PI.t_isi, PI.t_max2, PI.t_min2, List.map_cons, List.map_nil, List.append_nil, List.nil_append, List.cons_append, List.length_cons, List.length_nil, List.replicate_zero, List.replicate_succ, if_true, if_false, Bool.true_and, Bool.and_true, Bool.not_true, Bool.not_false, decide_true, decide_false, asgs, PI.q_if, reduceIte, reduceCtorEq, id_eq, Option.map_some, PI.rq_ite, toInt, Nat.reduceSub, Nat.reduceAdd, deref, tyIs, isNon, isBl]
        simp
    | int i =>
      simp only [PI.w_loc, PI.w_cst, PI.w_gfn, PI.w_bin, PI.w_neg, PI.w_inv, PI.w_not, PI.w_cmp, PI.w_chn, PI.w_and, PI.w_or, PI.w_iteE, PI.w_tup, PI.w_lst, PI.w_idx, PI.w_slL, PI.w_slU, PI.w_slLU, PI.w_rev, PI.w_call, PI.w_bi, PI.w_me, PI.w_comp, PI.w_nilS, PI.w_consS, PI.w_nilT, PI.w_consT, PI.w_iex, PI.w_irng, PI.w_ienm, PI.w_izp, PI.w_irv, PI.v_nil, PI.v_cons, PI.v_pass, PI.v_brk, PI.v_cnt, PI.v_never, PI.v_set, PI.v_asg, PI.asg_tp, PI.v_aug, PI.v_seti, PI.v_ex, PI.v_ret, PI.v_retN, PI.v_ite, PI.v_whl, PI.v_for, PI.body_eq, PI.rq_ret, PI.rq_opt, PI.rq_ok, PI.rsq_ok, PI.rq_truM, PI.q_nx, PI.q_rt, PI.q_bk, PI.q_ct, List.getElem?_cons_zero, List.getElem?_cons_succ, List.set_cons_zero, List.set_cons_succ, Option.join_some, wipeE, PI.b_add, PI.b_sub, PI.b_mul, PI.b_fdiv, PI.b_mod, PI.b_pow, PI.a_add, PI.a_sub, PI.a_mul, PI.u_int, PI.c_lt, PI.c_le, PI.c_gt, PI.c_ge, PI.c_is, PI.c_isn, PI.tru_bl, PI.tru_int, PI.t_abs, t_len_t, t_len_l, PI.t_int, PI.t_intb, PI.t_isi, PI.t_max2, PI.t_min2, List.map_cons, List.map_nil, List.append_nil, List.nil_append, List.cons_append, List.length_cons, List.length_nil, List.replicate_zero, List.replicate_succ, if_true, if_false, Bool.true_and, Bool.and_true, Bool.not_true, Bool.not_false, decide_true, decide_false, asgs, PI.q_if, reduceIte, reduceCtorEq, id_eq, Option.map_some, PI.rq_ite, toInt, Nat.reduceSub, Nat.reduceAdd, deref, tyIs, isNon, isBl, c_eq]
      first | exact ⟨rfl, rfl⟩ | exact ⟨trivial, trivial⟩ | simp
    | tup xs => exact absurd rfl (hd xs)
    | _ => cases n <;> simp [tp] at h
  intro n
  induction n with
  | zero =>
    intro d k S h
    refine flat 0 d k S (fun xs e => ?_) h
    subst e
    simp [tp] at h
  | succ n ih =>
    intro d k S h
    by_cases hd : ∃ xs, d = .tup xs
    · obtain ⟨xs, rfl⟩ := hd
      have hx : tps n xs = true := by simpa [tp] using h
      refine key n _ _ S ?_
      rw [rq_fn]
      unfold fIs bIs
      simp only [PI.w_loc, PI.w_cst, PI.w_gfn, PI.w_bin, PI.w_neg, PI.w_inv, PI.w_not, PI.w_cmp, PI.w_chn, PI.w_and, PI.w_or, PI.w_iteE, PI.w_tup, PI.w_lst, PI.w_idx, PI.w_slL, PI.w_slU, PI.w_slLU, PI.w_rev, PI.w_call, PI.w_bi, PI.w_me, PI.w_comp, PI.w_nilS, PI.w_consS, PI.w_nilT, PI.w_consT, PI.w_iex, PI.w_irng, PI.w_ienm, PI.w_izp, PI.w_irv, PI.v_nil, PI.v_cons, PI.v_pass, PI.v_brk, PI.v_cnt, PI.v_never, PI.v_set, PI.v_asg, PI.asg_tp, PI.v_aug, PI.v_seti, PI.v_ex, PI.v_ret, PI.v_retN, PI.v_ite, PI.v_whl, PI.v_for, PI.body_eq, PI.rq_ret, PI.rq_opt, PI.rq_ok, PI.rsq_ok, PI.rq_truM, PI.q_nx, PI.q_rt, PI.q_bk, PI.q_ct, List.getElem?_cons_zero, List.getElem?_cons_succ, List.set_cons_zero, List.set_cons_succ, Option.join_some, wipeE, PI.b_add, PI.b_sub, PI.b_mul, PI.b_fdiv, PI.b_mod, PI.b_pow, PI.a_add, PI.a_sub, PI.a_mul, PI.u_int, PI.c_lt, PI.c_le, PI.c_gt, PI.c_ge, PI.c_is, PI.c_isn, PI.tru_bl, PI.tru_int, PI.t_abs, t_len_t, t_len_l, PI.t_int, PI.t_intb, PI.t_isi, PI.t_max2, PI.t_min2, List.map_cons, List.map_nil, List.append_nil, List.nil_append, List.cons_append, List.length_cons, List.length_nil, List.replicate_zero, List.replicate_succ, if_true, if_false, Bool.true_and, Bool.and_true, Bool.not_true, Bool.not_false, decide_true, decide_false, asgs, PI.q_if, reduceIte, reduceCtorEq, id_eq, Option.map_some, PI.rq_ite, toInt, Nat.reduceSub, Nat.reduceAdd, deref, tyIs, c_ne, evI, items]
      refine (is_zip (n := n) (p := some (.tup xs)) (q := some (.tup xs)) (fun d S h => ih d k S h) hx).mono ?_
      rintro ys S' ⟨rfl, rfl⟩
      rw [newL_t (Nat.zero_le _)]
      simp only [PI.w_loc, PI.w_cst, PI.w_gfn, PI.w_bin, PI.w_neg, PI.w_inv, PI.w_not, PI.w_cmp, PI.w_chn, PI.w_and, PI.w_or, PI.w_iteE, PI.w_tup, PI.w_lst, PI.w_idx, PI.w_slL, PI.w_slU, PI.w_slLU, PI.w_rev, PI.w_call, PI.w_bi, PI.w_me, PI.w_comp, PI.w_nilS, PI.w_consS, PI.w_nilT, PI.w_consT, PI.w_iex, PI.w_irng, PI.w_ienm, PI.w_izp, PI.w_irv, PI.v_nil, PI.v_cons, PI.v_pass, PI.v_brk, PI.v_cnt, PI.v_never, PI.v_set, PI.v_asg, PI.asg_tp, PI.v_aug, PI.v_seti, PI.v_ex, PI.v_ret, PI.v_retN, PI.v_ite, PI.v_whl, PI.v_for, PI.body_eq, PI.rq_ret, PI.rq_opt, PI.rq_ok, PI.rsq_ok, PI.rq_truM, PI.q_nx, PI.q_rt, PI.q_bk, PI.q_ct, List.getElem?_cons_zero, List.getElem?_cons_succ, List.set_cons_zero, List.set_cons_succ, Option.join_some, wipeE, PI.b_add, PI.b_sub, PI.b_mul, PI.b_fdiv, PI.b_mod, PI.b_pow, PI.a_add, PI.a_sub, PI.a_mul, PI.u_int, PI.c_lt, PI.c_le, PI.c_gt, PI.c_ge, PI.c_is, PI.c_isn, PI.tru_bl, PI.tru_int, PI.t_abs, t_len_t, t_len_l, PI.t_int, PI.t_intb, PI.t_isi, PI.t_max2, PI.t_min2, List.map_cons, List.map_nil, List.append_nil, List.nil_append, List.cons_append, List.length_cons, List.length_nil, List.replicate_zero, List.replicate_succ, if_true, if_false, Bool.true_and, Bool.and_true, Bool.not_true, Bool.not_false, decide_true, decide_false, asgs, PI.q_if, reduceIte, reduceCtorEq, id_eq, Option.map_some, PI.rq_ite, toInt, Nat.reduceSub, Nat.reduceAdd, newL_t (show ([] : List D).length ≤ lim from Nat.zero_le _), c_eqS eqM_nn]
      first | exact ⟨rfl, rfl⟩ | exact ⟨trivial, trivial⟩ | simp
    · refine flat (n + 1) d k S (fun xs e => hd ⟨xs, e⟩) h
end PI

/-! the box -/
namespace PI
open PySem PySem.Spec PyProof.Rows L2
def bBox : Ss :=
 (.cons (.asg (.tp [2, 3]) (.tup (.cons (.lst false .nil) (.cons (.bin .add (.cst (.int 60913)) (.bin .mul (.cst (.int 4201)) (.loc 1))) .nil))))
  (.cons (.for (.tp [4, 5]) (.enm (.slU (.loc 0) (.cst (.int 63)))) (.cons (.set 6 (.bin .add (.bin .mul (.bi .abs (.cons (.loc 5) .nil)) (.cst (.int 2))) (.bi .int (.cons (.cmp .lt (.loc 5) (.cst (.int 0))) .nil))))
   (.cons (.ite (.cmp .ge (.bi .abs (.cons (.loc 5) .nil)) (.bin .pow (.cst (.int 10)) (.cst (.int 18)))) (.cons (.ex (.me .append (.loc 2) (.cons (.bi .abs (.cons (.loc 5) .nil)) .nil))) .nil) .nil)
   (.cons (.set 3 (.bin .add (.bin .mod (.bi .int (.cons (.bin .add (.bin .add (.bin .mul (.loc 3) (.cst (.int 48271))) (.bin .mul (.bin .mod (.bi .int (.cons (.loc 6) .nil)) (.cst (.int 2147483629))) (.bin .add (.bin .mul (.cst (.int 2)) (.loc 4)) (.cst (.int 44927))))) (.cst (.int 23))) .nil)) (.cst (.int 2147483629))) (.cst (.int 1)))) .nil))))
  (.cons (.ret (.lst false (.cons (.loc 2) (.cons (.loc 3) .nil)))) .nil)))
abbrev fBox : Fn := ⟨2, [], 7, bBox⟩
section
variable {S : Sto} {k : Nat} {xs : List D}
theorem rq_chk {Q : Unit → Sto → Prop} (h : S[k]? = some (.lst xs)) : RQ (meck .append (.ref k) S) Q = Q () S := by
  unfold meck
  dsimp only
  rw [h]
  rfl
theorem rq_app {d : D} {Q : D → Sto → Prop} (h : S[k]? = some (.lst xs)) (hl : xs.length < lim) : RQ (meop .append (.ref k) [d] S) Q = Q .non (S.set k (.lst (xs ++ [d]))) := by
  unfold meop
  dsimp only
  rw [h]
  dsimp only
  rw [if_pos hl]
  rfl
end
theorem rq_slcS {S : Sto} {ns : List Int} {lo hi : Option Int} {Q : D → Sto → Prop} : RQ (slcop (.scr ns) lo hi S) Q = Q (.lst (cutL (ns.map D.int) lo hi)) S := propext Iff.rfl
theorem cut_len {α : Type} (xs : List α) (lo hi : Option Int) : (cutL xs lo hi).length ≤ xs.length := by
  unfold cutL
  rw [List.length_take, List.length_drop]
  omega
theorem ilim : ∀ {n : Nat}, n ≤ 1000 → n ≤ lim := fun h => by rw [lim_val]; omega
theorem mul_l {i j : Int} (h : bits i < 64) : mulX i j := .inr (.inl h)
theorem box_ok {C : Cal} {F : Nat} {ns : List Int} {salt : Int} (hn : ns.length ≤ 63) : RQ (runFn C F fBox [.scr ns, .int salt] []) (fun d S' => d = .ref 1 ∧ S'.length = 2 ∧ Bx S' 1) := by
  rw [rq_fn]
  unfold fBox bBox
  simp only [PI.w_loc, PI.w_cst, PI.w_gfn, PI.w_bin, PI.w_neg, PI.w_inv, PI.w_not, PI.w_cmp, PI.w_chn, PI.w_and, PI.w_or, PI.w_iteE, PI.w_tup, PI.w_lst, PI.w_idx, PI.w_slL, PI.w_slU, PI.w_slLU, PI.w_rev, PI.w_call, PI.w_bi, PI.w_me, PI.w_comp, PI.w_nilS, PI.w_consS, PI.w_nilT, PI.w_consT, PI.w_iex, PI.w_irng, PI.w_ienm, PI.w_izp, PI.w_irv, PI.v_nil, PI.v_cons, PI.v_pass, PI.v_brk, PI.v_cnt, PI.v_never, PI.v_set, PI.v_asg, PI.asg_tp, PI.v_aug, PI.v_seti, PI.v_ex, PI.v_ret, PI.v_retN, PI.v_ite, PI.v_whl, PI.v_for, PI.body_eq, PI.rq_ret, PI.rq_opt, PI.rq_ok, PI.rsq_ok, PI.rq_truM, PI.q_nx, PI.q_rt, PI.q_bk, PI.q_ct, List.getElem?_cons_zero, List.getElem?_cons_succ, List.set_cons_zero, List.set_cons_succ, Option.join_some, wipeE, PI.b_add, PI.b_sub, PI.b_mul, PI.b_fdiv, PI.b_mod, PI.b_pow, PI.a_add, PI.a_sub, PI.a_mul, PI.u_int, PI.c_lt, PI.c_le, PI.c_gt, PI.c_ge, PI.c_is, PI.c_isn, PI.tru_bl, PI.tru_int, PI.t_abs, t_len_t, t_len_l, PI.t_int, PI.t_intb, PI.t_isi, PI.t_max2, PI.t_min2, List.map_cons, List.map_nil, List.append_nil, List.nil_append, List.cons_append, List.length_cons, List.length_nil, List.replicate_zero, List.replicate_succ, if_true, if_false, Bool.true_and, Bool.and_true, Bool.not_true, Bool.not_false, decide_true, decide_false, asgs, PI.q_if, reduceIte, reduceCtorEq, id_eq, Option.map_some, PI.rq_ite, toInt, Nat.reduceSub, Nat.reduceAdd, newL_f (show ([] : List D).length ≤ lim from Nat.zero_le _)]
  refine ⟨mul_l (by decide), ?_⟩
  refine ⟨by rw [lim_val]; decide, ?_⟩
  simp only [PI.w_loc, PI.w_cst, PI.w_gfn, PI.w_bin, PI.w_neg, PI.w_inv, PI.w_not, PI.w_cmp, PI.w_chn, PI.w_and, PI.w_or, PI.w_iteE, PI.w_tup, PI.w_lst, PI.w_idx, PI.w_slL, PI.w_slU, PI.w_slLU, PI.w_rev, PI.w_call, PI.w_bi, PI.w_me, PI.w_comp, PI.w_nilS, PI.w_consS, PI.w_nilT, PI.w_consT, PI.w_iex, PI.w_irng, PI.w_ienm, PI.w_izp, PI.w_irv, PI.v_nil, PI.v_cons, PI.v_pass, PI.v_brk, PI.v_cnt, PI.v_never, PI.v_set, PI.v_asg, PI.asg_tp, PI.v_aug, PI.v_seti, PI.v_ex, PI.v_ret, PI.v_retN, PI.v_ite, PI.v_whl, PI.v_for, PI.body_eq, PI.rq_ret, PI.rq_opt, PI.rq_ok, PI.rsq_ok, PI.rq_truM, PI.q_nx, PI.q_rt, PI.q_bk, PI.q_ct, List.getElem?_cons_zero, List.getElem?_cons_succ, List.set_cons_zero, List.set_cons_succ, Option.join_some, wipeE, PI.b_add, PI.b_sub, PI.b_mul, PI.b_fdiv, PI.b_mod, PI.b_pow, PI.a_add, PI.a_sub, PI.a_mul, PI.u_int, PI.c_lt, PI.c_le, PI.c_gt, PI.c_ge, PI.c_is, PI.c_isn, PI.tru_bl, PI.tru_int, PI.t_abs, t_len_t, t_len_l, PI.t_int, PI.t_intb, PI.t_isi, PI.t_max2, PI.t_min2, List.map_cons, List.map_nil, List.append_nil, List.nil_append, List.cons_append, List.length_cons, List.length_nil, List.replicate_zero, List.replicate_succ, if_true, if_false, Bool.true_and, Bool.and_true, Bool.not_true, Bool.not_false, decide_true, decide_false, asgs, PI.q_if, reduceIte, reduceCtorEq, id_eq, Option.map_some, PI.rq_ite, toInt, Nat.reduceSub, Nat.reduceAdd, rq_slcS, items]
  have hI : ∀ (i : Nat) d, (enumL 0 (cutL (ns.map D.int) none (some 63)))[i]? = some d → ∃ c, d = .tup [.int (i : Int), .int c] := by
    intro i d h
    obtain ⟨e, h1, rfl⟩ := enumL_get h
    rw [cut_map, List.getElem?_map] at h1
    cases h2 : (cutL ns none (some 63))[i]? with
    | none => rw [h2] at h1; cases h1
    | some c =>
      rw [h2] at h1
      cases h1
      exact ⟨c, by rw [Nat.zero_add]⟩
  have hL : (enumL 0 (cutL (ns.map D.int) none (some 63))).length ≤ 63 := by
    rw [enumL_len]
    refine Nat.le_trans (cut_len _ _ _) ?_
    rw [List.length_map]
    exact hn
  refine rsq_for (fun i ρ S => ∃ (R : List Int) (st : Int) (k c sz : Option D), ρ = [some (.scr ns), some (.int salt), some (.ref 0), some (.int st), k, c, sz] ∧ S = [.lst (R.map D.int)] ∧ R.length ≤ i) ⟨[], _, none, none, none, rfl, rfl, Nat.le_refl _⟩ ?_ ?_
  · rintro i d ρ S hd ⟨R, st, k, c, sz, rfl, rfl, hR⟩
    obtain ⟨c', rfl⟩ := hI i d hd
    have hi : i < 63 := Nat.lt_of_lt_of_le (List.getElem?_eq_some_iff.mp hd).1 hL
    refine ⟨_, rfl, ?_⟩
    have hS : ([O.lst (R.map D.int)] : Sto)[0]? = some (.lst (R.map D.int)) := rfl
    have small : ∀ x : Int, bits (x % 2147483629) < 64 := fun x => by
      have h1 := Int.emod_nonneg x (show (2147483629 : Int) ≠ 0 by decide)
      have h2 := Int.emod_lt_of_pos x (show (0 : Int) < 2147483629 by decide)
      exact bits_small (n := 64) (by omega) (by decide)
    simp only [PI.w_loc, PI.w_cst, PI.w_gfn, PI.w_bin, PI.w_neg, PI.w_inv, PI.w_not, PI.w_cmp, PI.w_chn, PI.w_and, PI.w_or, PI.w_iteE, PI.w_tup, PI.w_lst, PI.w_idx, PI.w_slL, PI.w_slU, PI.w_slLU, PI.w_rev, PI.w_call, PI.w_bi, PI.w_me, PI.w_comp, PI.w_nilS, PI.w_consS, PI.w_nilT, PI.w_consT, PI.w_iex, PI.w_irng, PI.w_ienm, PI.w_izp, PI.w_irv, PI.v_nil, PI.v_cons, PI.v_pass, PI.v_brk, PI.v_cnt, PI.v_never, PI.v_set, PI.v_asg, PI.asg_tp, PI.v_aug, PI.v_seti, PI.v_ex, PI.v_ret, PI.v_retN, PI.v_ite, PI.v_whl, PI.v_for, PI.body_eq, PI.rq_ret, PI.rq_opt, PI.rq_ok, PI.rsq_ok, PI.rq_truM, PI.q_nx, PI.q_rt, PI.q_bk, PI.q_ct, List.getElem?_cons_zero, List.getElem?_cons_succ, List.set_cons_zero, List.set_cons_succ, Option.join_some, wipeE, PI.b_add, PI.b_sub, PI.b_mul, PI.b_fdiv, PI.b_mod, PI.b_pow, PI.a_add, PI.a_sub, PI.a_mul, PI.u_int, PI.c_lt, PI.c_le, PI.c_gt, PI.c_ge, PI.c_is, PI.c_isn, PI.tru_bl, PI.tru_int, PI.t_abs, t_len_t, t_len_l, PI.t_int, PI.t_intb, PI.t_isi, PI.t_max2, PI.t_min2, List.map_cons, List.map_nil, List.append_nil, List.nil_append, List.cons_append, List.length_cons, List.length_nil, List.replicate_zero, List.replicate_succ, if_true, if_false, Bool.true_and, Bool.and_true, Bool.not_true, Bool.not_false, decide_true, decide_false, asgs, PI.q_if, reduceIte, reduceCtorEq, id_eq, Option.map_some, PI.rq_ite, toInt, Nat.reduceSub, Nat.reduceAdd]
    generalize iabs c' = ab
    generalize (if decide (c' < 0) = true then (1 : Int) else 0) = sg
    refine ⟨mul_r (by decide), ⟨by decide, by decide +kernel⟩, ?_⟩
    split
    · rw [rq_chk hS, rq_app hS (by rw [List.length_map, lim_val]; omega)]
      exact ⟨mul_r (by decide), by decide, mul_l (by decide), mul_l (small _), by decide, R ++ [ab], _, _, _, _, rfl, by rw [List.map_append]; rfl, by rw [List.length_append]; simpa using hR⟩
    · exact ⟨mul_r (by decide), by decide, mul_l (by decide), mul_l (small _), by decide, R, _, _, _, _, rfl, rfl, by omega⟩
  · rintro ρ S ⟨R, st, k, c, sz, rfl, rfl, hR⟩
    have h2 : ([D.ref 0, D.int st] : List D).length ≤ lim := by rw [lim_val]; exact (by decide : 2 ≤ 16777216)
    simp only [PI.w_loc, PI.w_cst, PI.w_gfn, PI.w_bin, PI.w_neg, PI.w_inv, PI.w_not, PI.w_cmp, PI.w_chn, PI.w_and, PI.w_or, PI.w_iteE, PI.w_tup, PI.w_lst, PI.w_idx, PI.w_slL, PI.w_slU, PI.w_slLU, PI.w_rev, PI.w_call, PI.w_bi, PI.w_me, PI.w_comp, PI.w_nilS, PI.w_consS, PI.w_nilT, PI.w_consT, PI.w_iex, PI.w_irng, PI.w_ienm, PI.w_izp, PI.w_irv, PI.v_nil, PI.v_cons, PI.v_pass, PI.v_brk, PI.v_cnt, PI.v_never, PI.v_set, PI.v_asg, PI.asg_tp, PI.v_aug, PI.v_seti, PI.v_ex, PI.v_ret, PI.v_retN, PI.v_ite, PI.v_whl, PI.v_for, PI.body_eq, PI.rq_ret, PI.rq_opt, PI.rq_ok, PI.rsq_ok, PI.rq_truM, PI.q_nx, PI.q_rt, PI.q_bk, PI.q_ct, List.getElem?_cons_zero, List.getElem?_cons_succ, List.set_cons_zero, List.set_cons_succ, Option.join_some, wipeE, PI.b_add, PI.b_sub, PI.b_mul, PI.b_fdiv, PI.b_mod, PI.b_pow, PI.a_add, PI.a_sub, PI.a_mul, PI.u_int, PI.c_lt, PI.c_le, PI.c_gt, PI.c_ge, PI.c_is, PI.c_isn, PI.tru_bl, PI.tru_int, PI.t_abs, t_len_t, t_len_l, PI.t_int, PI.t_intb, PI.t_isi, PI.t_max2, PI.t_min2, List.map_cons, List.map_nil, List.append_nil, List.nil_append, List.cons_append, List.length_cons, List.length_nil, List.replicate_zero, List.replicate_succ, if_true, if_false, Bool.true_and, Bool.and_true, Bool.not_true, Bool.not_false, decide_true, decide_false, asgs, PI.q_if, reduceIte, reduceCtorEq, id_eq, Option.map_some, PI.rq_ite, toInt, Nat.reduceSub, Nat.reduceAdd, newL_f h2]
    exact ⟨trivial, trivial, .ref 0, R, st, rfl, rfl, by omega⟩
/-- a comprehension that maps -/
theorem rq_map {S : Sto} {ρ : Env} {C : Cal} {tg : T} {elt : Env → M D} {Q : List D → Sto → Prop} (f : D → D) {ds : List D} (hl : ds.length ≤ 1000)
    (step : ∀ d ∈ ds, ∃ ρ1, asgT tg d ρ = some ρ1 ∧ RQ (elt ρ1 S) (fun y S2 => y = f d ∧ S2 = S)) (hq : Q (ds.map f) S) : RQ (compL tg (tstF C .nil) elt ρ ds 0 S) Q := by
  refine rq_comp (fun _ S' => S' = S) (fun i y => ∃ d, ds[i]? = some d ∧ y = f d) (ilim hl) rfl ?_ ?_
  · rintro i d _ hd rfl
    obtain ⟨ρ1, h1, h2⟩ := step d (List.mem_of_getElem? hd)
    exact ⟨ρ1, h1, h2.mono fun y S2 ⟨e1, e2⟩ => ⟨⟨d, hd, e1⟩, e2⟩⟩
  · rintro ys _ hy hp rfl
    have : ys = ds.map f := by
      apply List.ext_getElem?
      intro i
      by_cases hi : i < ys.length
      · obtain ⟨d, h1, h2⟩ := hp i _ (List.getElem?_eq_getElem hi)
        rw [List.getElem?_eq_getElem hi, h2, List.getElem?_map, h1]
        rfl
      · rw [List.getElem?_eq_none (by omega), List.getElem?_eq_none (by rw [List.length_map]; omega)]
    rw [this]
    exact hq
end PI

namespace Lw
open PySem PySem.Spec PyProof.Rows L2 PI
def top (i : Nat) : Stmt := PySem.Challenge.pw_fewleaps_k14_whole_outward.main.body.getD i (.Pass ⟨0, 0, 0, 0⟩)
/-- is_integer(value) -/
def b0 : Ss :=
 (.cons (.ret (.and (.bi (.isi .int) (.cons (.loc 0) .nil)) (.not (.bi (.isi .bool) (.cons (.loc 0) .nil))))) .nil)
abbrev f0 : Fn := ⟨1, [], 1, b0⟩
def d0 : He.DefD := ⟨("is_integer", none), "is_integer", "is_integer", defArgs (top 1), defBody (top 1), defScope (top 1), [], []⟩
abbrev r0 : PI.Row := ⟨d0, ["value"], f0⟩
/-- is_between(value, least, most) -/
def b1 : Ss :=
 (.cons (.ret (.and (.call 0 (.cons (.loc 0) .nil) .nil []) (.chn .le .le (.loc 1) (.loc 0) (.loc 2)))) .nil)
abbrev f1 : Fn := ⟨3, [], 3, b1⟩
def d1 : He.DefD := ⟨("is_between", none), "is_between", "is_between", defArgs (top 2), defBody (top 2), defScope (top 2), [], []⟩
abbrev r1 : PI.Row := ⟨d1, ["value", "least", "most"], f1⟩
/-- is_leap_row(value) -/
def b2 : Ss :=
 (.cons (.ite (.or (.not (.bi (.isi .tup) (.cons (.loc 0) .nil))) (.not (.chn .le .le (.cst (.int 2)) (.bi .len (.cons (.loc 0) .nil)) (.cst (.int 4))))) (.cons (.ret (.cst (.bl false))) .nil) .nil)
  (.cons (.ite (.or (.not (.bi .all (.cons (.comp true [1] (.call 1 (.cons (.loc 1) (.cons (.neg (.cst (.int 999))) (.cons (.cst (.int 999)) .nil))) .nil []) (.nm 1) (.ex (.loc 0)) .nil) .nil))) (.cmp .eq (.idx (.loc 0) (.neg (.cst (.int 1)))) (.cst (.int 0)))) (.cons (.ret (.cst (.bl false))) .nil) .nil)
  (.cons (.ret (.or (.cmp .gt (.bi .len (.cons (.loc 0) .nil)) (.cst (.int 2))) (.cmp .ne (.bi .abs (.cons (.idx (.loc 0) (.cst (.int 1))) .nil)) (.cst (.int 1))))) .nil)))
abbrev f2 : Fn := ⟨1, [], 2, b2⟩
def d2 : He.DefD := ⟨("is_leap_row", none), "is_leap_row", "is_leap_row", defArgs (top 5), defBody (top 5), defScope (top 5), [], []⟩
abbrev r2 : PI.Row := ⟨d2, ["value", "one"], f2⟩
/-- worth(row, number) -/
def b3 : Ss :=
 (.cons (.set 2 (.cst (.int 0)))
  (.cons (.for (.nm 3) (.rv (.loc 0)) (.cons (.set 2 (.bin .add (.bin .mul (.loc 2) (.loc 1)) (.loc 3))) .nil))
  (.cons (.ret (.loc 2)) .nil)))
abbrev f3 : Fn := ⟨2, [], 4, b3⟩
def d3 : He.DefD := ⟨("worth", none), "worth", "worth", defArgs (top 6), defBody (top 6), defScope (top 6), [], []⟩
abbrev r3 : PI.Row := ⟨d3, ["row", "number", "found", "one"], f3⟩
/-- sum_of(row) -/
def b4 : Ss :=
 (.cons (.ret (.bi .sum (.cons (.comp true [1] (.bi .abs (.cons (.loc 1) .nil)) (.nm 1) (.ex (.slU (.loc 0) (.neg (.cst (.int 1))))) .nil) .nil))) .nil)
abbrev f4 : Fn := ⟨1, [], 2, b4⟩
def d4 : He.DefD := ⟨("sum_of", none), "sum_of", "sum_of", defArgs (top 7), defBody (top 7), defScope (top 7), [], []⟩
abbrev r4 : PI.Row := ⟨d4, ["row", "one"], f4⟩
/-- is_small(value, limit) -/
def b5 : Ss :=
 (.cons (.ret (.and (.call 0 (.cons (.loc 0) .nil) .nil []) (.cmp .lt (.bi .abs (.cons (.loc 0) .nil)) (.loc 1)))) .nil)
abbrev f5 : Fn := ⟨2, [], 2, b5⟩
def d5 : He.DefD := ⟨("is_small", none), "is_small", "is_small", defArgs (top 8), defBody (top 8), defScope (top 8), [], []⟩
abbrev r5 : PI.Row := ⟨d5, ["value", "limit"], f5⟩
/-- need_leap(value, at) -/
def b6 : Ss :=
 (.cons (.ite (.not (.call 2 (.cons (.loc 0) .nil) .nil [])) (.cons .never .nil) .nil)
  (.cons (.ret (.loc 0)) .nil))
abbrev f6 : Fn := ⟨2, [(.int (-1))], 2, b6⟩
def d6 : He.DefD := ⟨("need_leap", none), "need_leap", "need_leap", defArgs (top 15), defBody (top 15), defScope (top 15), [(.int (-1))], []⟩
abbrev r6 : PI.Row := ⟨d6, ["value", "at"], f6⟩
/-- need_small(value, limit, at) -/
def b7 : Ss :=
 (.cons (.ite (.not (.call 5 (.cons (.loc 0) (.cons (.loc 1) .nil)) .nil [])) (.cons .never .nil) .nil)
  (.cons (.ret (.loc 0)) .nil))
abbrev f7 : Fn := ⟨3, [(.int (-1))], 3, b7⟩
def d7 : He.DefD := ⟨("need_small", none), "need_small", "need_small", defArgs (top 16), defBody (top 16), defScope (top 16), [(.int (-1))], []⟩
abbrev r7 : PI.Row := ⟨d7, ["value", "limit", "at"], f7⟩
/-- value(leap, number) -/
def b8 : Ss :=
 (.cons (.ex (.call 6 (.cons (.loc 0) .nil) .nil []))
  (.cons (.ret (.call 3 (.cons (.loc 0) (.cons (.call 7 (.cons (.loc 1) (.cons (.cst (.int 10000000000000000000000000000000000000000000000000000000000000000000000000000000000000000000000000000000000000000000000000000000000000000000000000000000000000000000000000000000000000000000000000000000000000000000000000000000000000000000000000000000000000000000000000000000000000000000000000000000000000000000000000000000000000000000000000000000000000000000000000000000000000000000000000000000000000000000000000000000000000000000000000000000000000000000000000000000000000000000000000000000000000000000000000000000000000000000000000000000000000000000000000000000000000000000000000000000000000000000000000000000000000000000000000000000000000000000000000000000000000000000000000000000000000000000000000000000000000000000000000000000000000000000000000000000000000000000000000000000000000000000000000000000000000000000000000000000000000000000000000000000000000000000000000000000000000000000000000000000000000000000000000000000000000000000000000000000000000000000000000000000000000000000000000000000000000000)) .nil)) .nil []) .nil)) .nil [])) .nil))
abbrev f8 : Fn := ⟨2, [], 2, b8⟩
def d8 : He.DefD := ⟨("value", none), "value", "value", defArgs (top 17), defBody (top 17), defScope (top 17), [], []⟩
abbrev r8 : PI.Row := ⟨d8, ["leap", "number"], f8⟩
/-- outward(leap) -/
def b9 : Ss :=
 (.cons (.set 1 (.call 4 (.cons (.call 6 (.cons (.loc 0) .nil) .nil []) .nil) .nil []))
  (.cons (.ret (.tup (.cons (.bin .add (.loc 1) (.cst (.int 1))) (.cons (.loc 1) .nil)))) .nil))
abbrev f9 : Fn := ⟨1, [], 2, b9⟩
def d9 : He.DefD := ⟨("outward", none), "outward", "outward", defArgs (top 18), defBody (top 18), defScope (top 18), [], []⟩
abbrev r9 : PI.Row := ⟨d9, ["leap", "least"], f9⟩
/-- signs_of(row) -/
def b10 : Ss :=
 (.cons (.set 1 (.ite (.cmp .gt (.idx (.loc 0) (.neg (.cst (.int 1)))) (.cst (.int 0))) (.cst (.int 1)) (.neg (.cst (.int 1)))))
  (.cons (.ret (.tup (.cons (.ite (.cmp .eq (.bin .mod (.bi .len (.cons (.loc 0) .nil)) (.cst (.int 2))) (.cst (.int 1))) (.loc 1) (.bin .sub (.cst (.int 0)) (.loc 1))) (.cons (.loc 1) .nil)))) .nil))
abbrev f10 : Fn := ⟨1, [], 2, b10⟩
def d10 : He.DefD := ⟨("signs_of", none), "signs_of", "signs_of", defArgs (top 19), defBody (top 19), defScope (top 19), [], []⟩
abbrev r10 : PI.Row := ⟨d10, ["row", "above"], f10⟩
/-- signs(leap) -/
def b11 : Ss :=
 (.cons (.ret (.call 10 (.cons (.call 6 (.cons (.loc 0) .nil) .nil []) .nil) .nil [])) .nil)
abbrev f11 : Fn := ⟨1, [], 1, b11⟩
def d11 : He.DefD := ⟨("signs", none), "signs", "signs", defArgs (top 20), defBody (top 20), defScope (top 20), [], []⟩
abbrev r11 : PI.Row := ⟨d11, ["leap"], f11⟩
/-- out_from(leap) -/
def b12 : Ss :=
 (.cons (.set 1 (.idx (.call 9 (.cons (.loc 0) .nil) .nil []) (.cst (.int 0))))
  (.cons (.whl (.and (.cmp .gt (.loc 1) (.cst (.int 0))) (.and (.cmp .gt (.bi .abs (.cons (.call 3 (.cons (.loc 0) (.cons (.loc 1) .nil)) .nil []) .nil)) (.loc 1)) (.cmp .gt (.bi .abs (.cons (.call 3 (.cons (.loc 0) (.cons (.bin .sub (.cst (.int 0)) (.loc 1)) .nil)) .nil []) .nil)) (.loc 1)))) (.cons (.aug 1 .sub (.cst (.int 1))) .nil))
  (.cons (.ret (.loc 1)) .nil)))
abbrev f12 : Fn := ⟨1, [], 2, b12⟩
def d12 : He.DefD := ⟨("out_from", none), "out_from", "out_from", defArgs (top 21), defBody (top 21), defScope (top 21), [], []⟩
abbrev r12 : PI.Row := ⟨d12, ["leap", "size"], f12⟩
/-- _law_box(script, salt) -/
def b13 : Ss :=
 (.cons (.asg (.tp [2, 3]) (.tup (.cons (.lst false .nil) (.cons (.bin .add (.cst (.int 60913)) (.bin .mul (.cst (.int 4201)) (.loc 1))) .nil))))
  (.cons (.for (.tp [4, 5]) (.enm (.slU (.loc 0) (.cst (.int 63)))) (.cons (.set 6 (.bin .add (.bin .mul (.bi .abs (.cons (.loc 5) .nil)) (.cst (.int 2))) (.bi .int (.cons (.cmp .lt (.loc 5) (.cst (.int 0))) .nil))))
   (.cons (.ite (.cmp .ge (.bi .abs (.cons (.loc 5) .nil)) (.bin .pow (.cst (.int 10)) (.cst (.int 18)))) (.cons (.ex (.me .append (.loc 2) (.cons (.bi .abs (.cons (.loc 5) .nil)) .nil))) .nil) .nil)
   (.cons (.set 3 (.bin .add (.bin .mod (.bi .int (.cons (.bin .add (.bin .add (.bin .mul (.loc 3) (.cst (.int 48271))) (.bin .mul (.bin .mod (.bi .int (.cons (.loc 6) .nil)) (.cst (.int 2147483629))) (.bin .add (.bin .mul (.cst (.int 2)) (.loc 4)) (.cst (.int 44927))))) (.cst (.int 23))) .nil)) (.cst (.int 2147483629))) (.cst (.int 1)))) .nil))))
  (.cons (.ret (.lst false (.cons (.loc 2) (.cons (.loc 3) .nil)))) .nil)))
abbrev f13 : Fn := ⟨2, [], 7, b13⟩
def d13 : He.DefD := ⟨("_law_box", none), "_law_box", "_law_box", defArgs (top 23), defBody (top 23), defScope (top 23), [], []⟩
abbrev r13 : PI.Row := ⟨d13, ["script", "salt", "rest", "state", "k", "cell", "size"], f13⟩
/-- _law_take(box, many) -/
def b14 : Ss :=
 (.cons (.ite (.cmp .ne (.idx (.loc 0) (.cst (.int 0))) (.lst true .nil)) (.cons (.set 2 (.idx (.idx (.loc 0) (.cst (.int 0))) (.cst (.int 0))))
   (.cons (.seti (.loc 0) (.cst (.int 0)) (.bin .add (.ite (.cmp .ge (.loc 2) (.loc 1)) (.lst true (.cons (.bin .fdiv (.loc 2) (.loc 1)) .nil)) (.lst true .nil)) (.slL (.idx (.loc 0) (.cst (.int 0))) (.cst (.int 1)))))
   (.cons (.ret (.bin .mod (.bi .int (.cons (.loc 2) .nil)) (.loc 1))) .nil))) .nil)
  (.cons (.seti (.loc 0) (.cst (.int 1)) (.bin .mod (.bi .int (.cons (.bin .mul (.idx (.loc 0) (.cst (.int 1))) (.cst (.int 48271))) .nil)) (.cst (.int 2147483647))))
  (.cons (.ret (.bin .mod (.bi .int (.cons (.bin .fdiv (.bin .add (.bin .mul (.idx (.loc 0) (.cst (.int 1))) (.cst (.int 69621))) (.cst (.int 7))) (.cst (.int 1013))) .nil)) (.loc 1))) .nil)))
abbrev f14 : Fn := ⟨2, [], 3, b14⟩
def d14 : He.DefD := ⟨("_law_take", none), "_law_take", "_law_take", defArgs (top 24), defBody (top 24), defScope (top 24), [], []⟩
abbrev r14 : PI.Row := ⟨d14, ["box", "many", "cell"], f14⟩
/-- _law_pick(box, some) -/
def b15 : Ss :=
 (.cons (.ret (.idx (.loc 1) (.call 14 (.cons (.loc 0) (.cons (.bi .len (.cons (.loc 1) .nil)) .nil)) .nil []))) .nil)
abbrev f15 : Fn := ⟨2, [], 2, b15⟩
def d15 : He.DefD := ⟨("_law_pick", none), "_law_pick", "_law_pick", defArgs (top 25), defBody (top 25), defScope (top 25), [], []⟩
abbrev r15 : PI.Row := ⟨d15, ["box", "some"], f15⟩
/-- _law_is(told, due) -/
def b16 : Ss :=
 (.cons (.ite (.bi (.isi .tup) (.cons (.loc 1) .nil)) (.cons (.ite (.or (.not (.bi (.isi .tup) (.cons (.loc 0) .nil))) (.cmp .ne (.bi .len (.cons (.loc 0) .nil)) (.bi .len (.cons (.loc 1) .nil)))) (.cons (.ret (.cst (.bl false))) .nil) .nil)
   (.cons (.ret (.cmp .eq (.comp true [2, 3] (.cst (.int 1)) (.tp [2, 3]) (.zp (.loc 0) (.loc 1)) (.cons (.not (.call 16 (.cons (.loc 2) (.cons (.loc 3) .nil)) .nil [])) .nil)) (.lst true .nil))) .nil)) .nil)
  (.cons (.ite (.or (.cmp .is (.loc 1) (.cst .non)) (.or (.cmp .is (.loc 1) (.cst (.bl true))) (.cmp .is (.loc 1) (.cst (.bl false))))) (.cons (.ret (.ite (.cmp .is (.loc 1) (.cst .non)) (.cmp .is (.loc 0) (.cst .non)) (.ite (.cmp .is (.loc 1) (.cst (.bl true))) (.cmp .is (.loc 0) (.cst (.bl true))) (.cmp .is (.loc 0) (.cst (.bl false)))))) .nil) .nil)
  (.cons (.ite (.bi (.isi .int) (.cons (.loc 1) .nil)) (.cons (.ret (.and (.bi (.isi .int) (.cons (.loc 0) .nil)) (.and (.not (.bi (.isi .bool) (.cons (.loc 0) .nil))) (.cmp .eq (.loc 0) (.loc 1))))) .nil) .nil)
  (.cons (.ret (.and (.bi (.isi .str) (.cons (.loc 1) .nil)) (.and (.bi (.isi .str) (.cons (.loc 0) .nil)) (.cmp .eq (.loc 0) (.loc 1))))) .nil))))
abbrev f16 : Fn := ⟨2, [], 4, b16⟩
def d16 : He.DefD := ⟨("_law_is", none), "_law_is", "_law_is", defArgs (top 26), defBody (top 26), defScope (top 26), [], []⟩
abbrev r16 : PI.Row := ⟨d16, ["told", "due", "one", "other"], f16⟩
/-- _law_worth(row, number) -/
def b17 : Ss :=
 (.cons (.set 2 (.cst (.int 0)))
  (.cons (.for (.nm 3) (.ex (.rev (.loc 0))) (.cons (.set 2 (.bin .add (.bin .mul (.loc 2) (.loc 1)) (.loc 3))) .nil))
  (.cons (.ret (.loc 2)) .nil)))
abbrev f17 : Fn := ⟨2, [], 4, b17⟩
def d17 : He.DefD := ⟨("_law_worth", none), "_law_worth", "_law_worth", defArgs (top 27), defBody (top 27), defScope (top 27), [], []⟩
abbrev r17 : PI.Row := ⟨d17, ["row", "number", "found", "one"], f17⟩
/-- _law_small_leap(box) -/
def b18 : Ss :=
 (.cons (.set 1 (.call 15 (.cons (.loc 0) (.cons (.lst true (.cons (.cst (.int 1)) (.cons (.cst (.int 1)) (.cons (.cst (.int 1)) (.cons (.cst (.int 2)) (.cons (.cst (.int 2)) (.cons (.cst (.int 3)) .nil))))))) .nil)) .nil []))
  (.cons (.set 2 (.comp true [3] (.bin .sub (.call 14 (.cons (.loc 0) (.cons (.cst (.int 13)) .nil)) .nil []) (.cst (.int 6))) (.nm 3) (.rng (.cons (.loc 1) .nil)) .nil))
  (.cons (.set 4 (.call 15 (.cons (.loc 0) (.cons (.ite (.cmp .eq (.loc 1) (.cst (.int 1))) (.lst true (.cons (.cst (.int 2)) (.cons (.neg (.cst (.int 2))) (.cons (.cst (.int 3)) (.cons (.neg (.cst (.int 3))) .nil))))) (.lst true (.cons (.cst (.int 1)) (.cons (.neg (.cst (.int 1))) (.cons (.cst (.int 2)) .nil))))) .nil)) .nil []))
  (.cons (.ret (.bi .tuple (.cons (.bin .add (.loc 2) (.lst true (.cons (.loc 4) .nil))) .nil))) .nil))))
abbrev f18 : Fn := ⟨1, [], 5, b18⟩
def d18 : He.DefD := ⟨("_law_small_leap", none), "_law_small_leap", "_law_small_leap", defArgs (top 28), defBody (top 28), defScope (top 28), [], []⟩
abbrev r18 : PI.Row := ⟨d18, ["box", "degree", "row", "at", "last"], f18⟩
/-- _law_drawn(box) -/
def b19 : Ss :=
 (.cons (.set 1 (.call 14 (.cons (.loc 0) (.cons (.cst (.int 4)) .nil)) .nil []))
  (.cons (.ite (.cmp .lt (.loc 1) (.cst (.int 2))) (.cons (.ret (.call 18 (.cons (.loc 0) .nil) .nil [])) .nil) .nil)
  (.cons (.set 2 (.call 15 (.cons (.loc 0) (.cons (.lst true (.cons (.cst (.int 20)) (.cons (.cst (.int 100)) (.cons (.cst (.int 400)) .nil)))) .nil)) .nil []))
  (.cons (.set 3 (.comp true [4] (.bin .sub (.call 14 (.cons (.loc 0) (.cons (.bin .add (.bin .mul (.cst (.int 2)) (.loc 2)) (.cst (.int 1))) .nil)) .nil []) (.loc 2)) (.nm 4) (.rng (.cons (.call 15 (.cons (.loc 0) (.cons (.lst true (.cons (.cst (.int 1)) (.cons (.cst (.int 2)) (.cons (.cst (.int 2)) (.cons (.cst (.int 3)) .nil))))) .nil)) .nil []) .nil)) .nil))
  (.cons (.ret (.bi .tuple (.cons (.bin .add (.loc 3) (.lst true (.cons (.call 15 (.cons (.loc 0) (.cons (.ite (.cmp .eq (.bi .len (.cons (.loc 3) .nil)) (.cst (.int 1))) (.lst true (.cons (.cst (.int 2)) (.cons (.neg (.cst (.int 2))) (.cons (.cst (.int 3)) (.cons (.neg (.cst (.int 5))) .nil))))) (.lst true (.cons (.cst (.int 1)) (.cons (.neg (.cst (.int 1))) (.cons (.cst (.int 2)) (.cons (.cst (.int 999)) .nil)))))) .nil)) .nil []) .nil))) .nil))) .nil)))))
abbrev f19 : Fn := ⟨1, [], 5, b19⟩
def d19 : He.DefD := ⟨("_law_drawn", none), "_law_drawn", "_law_drawn", defArgs (top 29), defBody (top 29), defScope (top 29), [], []⟩
abbrev r19 : PI.Row := ⟨d19, ["box", "way", "most", "row", "at"], f19⟩
/-- _law_out(leap, edge) -/
def b20 : Ss :=
 (.cons (.set 2 (.cst (.int 0)))
  (.cons (.for (.nm 3) (.rng (.cons (.cst (.int 1)) (.cons (.bin .add (.loc 1) (.cst (.int 1))) .nil))) (.cons (.ite (.or (.cmp .le (.bi .abs (.cons (.call 17 (.cons (.loc 0) (.cons (.loc 3) .nil)) .nil []) .nil)) (.loc 3)) (.cmp .le (.bi .abs (.cons (.call 17 (.cons (.loc 0) (.cons (.bin .sub (.cst (.int 0)) (.loc 3)) .nil)) .nil []) .nil)) (.loc 3))) (.cons (.set 2 (.loc 3)) .nil) .nil) .nil))
  (.cons (.ret (.loc 2)) .nil)))
abbrev f20 : Fn := ⟨2, [], 4, b20⟩
def d20 : He.DefD := ⟨("_law_out", none), "_law_out", "_law_out", defArgs (top 30), defBody (top 30), defScope (top 30), [], []⟩
abbrev r20 : PI.Row := ⟨d20, ["leap", "edge", "found", "size"], f20⟩
/-- law(script) -/
def b21 : Ss :=
 (.cons (.set 1 (.call 13 (.cons (.loc 0) (.cons (.cst (.int 14)) .nil)) .nil []))
  (.cons (.for (.nm 2) (.rng (.cons (.cst (.int 10)) .nil)) (.cons (.set 3 (.call 19 (.cons (.loc 1) .nil) .nil []))
   (.cons (.set 4 (.bi .sum (.cons (.comp true [5] (.bi .abs (.cons (.loc 5) .nil)) (.nm 5) (.ex (.slU (.loc 3) (.neg (.cst (.int 1))))) .nil) .nil)))
   (.cons (.ite (.not (.call 16 (.cons (.tup (.cons (.call 9 (.cons (.loc 3) .nil) .nil []) (.cons (.call 9 .nil (.cons (.loc 3) .nil) [0]) .nil))) (.cons (.bin .mul (.tup (.cons (.tup (.cons (.bin .add (.loc 4) (.cst (.int 1))) (.cons (.loc 4) .nil))) .nil)) (.cst (.int 2))) .nil)) .nil [])) (.cons (.ret (.cst (.bl false))) .nil) .nil)
   (.cons (.set 6 (.bin .add (.bin .add (.loc 4) (.cst (.int 2))) (.call 14 (.cons (.loc 1) (.cons (.call 15 (.cons (.loc 1) (.cons (.lst true (.cons (.cst (.int 1)) (.cons (.cst (.int 5)) (.cons (.cst (.int 1000)) (.cons (.bin .pow (.cst (.int 10)) (.cst (.int 30))) .nil))))) .nil)) .nil []) .nil)) .nil [])))
   (.cons (.set 7 (.tup (.cons (.ite (.cmp .gt (.call 17 (.cons (.loc 3) (.cons (.bin .sub (.cst (.int 0)) (.loc 6)) .nil)) .nil []) (.cst (.int 0))) (.cst (.int 1)) (.neg (.cst (.int 1)))) (.cons (.ite (.cmp .gt (.call 17 (.cons (.loc 3) (.cons (.loc 6) .nil)) .nil []) (.cst (.int 0))) (.cst (.int 1)) (.neg (.cst (.int 1)))) .nil))))
   (.cons (.ite (.not (.call 16 (.cons (.tup (.cons (.call 11 (.cons (.loc 3) .nil) .nil []) (.cons (.call 11 .nil (.cons (.loc 3) .nil) [0]) .nil))) (.cons (.tup (.cons (.loc 7) (.cons (.loc 7) .nil))) .nil)) .nil [])) (.cons (.ret (.cst (.bl false))) .nil) .nil)
   (.cons (.for (.nm 8) (.ex (.tup (.cons (.loc 6) (.cons (.bin .sub (.cst (.int 0)) (.loc 6)) (.cons (.bin .add (.loc 4) (.cst (.int 2))) (.cons (.bin .sub (.neg (.cst (.int 2))) (.loc 4)) .nil)))))) (.cons (.ite (.cmp .lt (.bi .abs (.cons (.call 8 (.cons (.loc 3) (.cons (.loc 8) .nil)) .nil []) .nil)) (.bin .sub (.bin .mul (.cst (.int 2)) (.bi .abs (.cons (.loc 8) .nil))) (.loc 4))) (.cons (.ret (.cst (.bl false))) .nil) .nil) .nil))
   (.cons (.set 9 (.call 20 (.cons (.loc 3) (.cons (.bin .add (.loc 4) (.cst (.int 1))) .nil)) .nil []))
   (.cons (.ite (.not (.call 16 (.cons (.tup (.cons (.call 12 (.cons (.loc 3) .nil) .nil []) (.cons (.call 12 .nil (.cons (.loc 3) .nil) [0]) .nil))) (.cons (.tup (.cons (.loc 9) (.cons (.loc 9) .nil))) .nil)) .nil [])) (.cons (.ret (.cst (.bl false))) .nil) .nil) .nil))))))))))
  (.cons (.set 7 (.tup (.cons (.call 9 (.cons (.tup (.cons (.cst (.int 3)) (.cons (.cst (.int 0)) (.cons (.cst (.int 1)) .nil)))) .nil) .nil []) (.cons (.call 11 (.cons (.tup (.cons (.cst (.int 1)) (.cons (.cst (.int 2)) .nil))) .nil) .nil []) (.cons (.call 11 (.cons (.tup (.cons (.cst (.int 3)) (.cons (.cst (.int 0)) (.cons (.cst (.int 1)) .nil)))) .nil) .nil []) (.cons (.call 12 (.cons (.tup (.cons (.neg (.cst (.int 3))) (.cons (.cst (.int 0)) (.cons (.cst (.int 1)) .nil)))) .nil) .nil []) (.cons (.call 12 (.cons (.tup (.cons (.cst (.int 0)) (.cons (.cst (.int 2)) .nil))) .nil) .nil []) (.cons (.call 12 (.cons (.tup (.cons (.cst (.int 5)) (.cons (.cst (.int 2)) .nil))) .nil) .nil []) (.cons (.call 12 (.cons (.tup (.cons (.cst (.int 0)) (.cons (.cst (.int 0)) (.cons (.cst (.int 0)) (.cons (.neg (.cst (.int 1))) .nil))))) .nil) .nil []) (.cons (.call 11 (.cons (.tup (.cons (.cst (.int 0)) (.cons (.cst (.int 0)) (.cons (.cst (.int 0)) (.cons (.neg (.cst (.int 1))) .nil))))) .nil) .nil []) .nil))))))))))
  (.cons (.ret (.call 16 (.cons (.loc 7) (.cons (.tup (.cons (.tup (.cons (.cst (.int 4)) (.cons (.cst (.int 3)) .nil))) (.cons (.tup (.cons (.neg (.cst (.int 1))) (.cons (.cst (.int 1)) .nil))) (.cons (.tup (.cons (.cst (.int 1)) (.cons (.cst (.int 1)) .nil))) (.cons (.cst (.int 2)) (.cons (.cst (.int 0)) (.cons (.cst (.int 5)) (.cons (.cst (.int 1)) (.cons (.tup (.cons (.cst (.int 1)) (.cons (.neg (.cst (.int 1))) .nil))) .nil))))))))) .nil)) .nil [])) .nil))))
abbrev f21 : Fn := ⟨1, [], 10, b21⟩
def d21 : He.DefD := ⟨("law", none), "law", "law", defArgs (top 31), defBody (top 31), defScope (top 31), [], []⟩
abbrev r21 : PI.Row := ⟨d21, ["script", "box", "turn", "leap", "whole", "one", "far", "told", "number", "due"], f21⟩
def rows : List PI.Row := [r0, r1, r2, r3, r4, r5, r6, r7, r8, r9, r10, r11, r12, r13, r14, r15, r16, r17, r18, r19, r20, r21]
def T : Tab := ⟨["is_integer", "is_between", "is_leap_row", "worth", "sum_of", "is_small", "need_leap", "need_small", "value", "outward", "signs_of", "signs", "out_from", "_law_box", "_law_take", "_law_pick", "_law_is", "_law_worth", "_law_small_leap", "_law_drawn", "_law_out", "law"], ["abs", "all", "bool", "enumerate", "int", "isinstance", "len", "range", "reversed", "str", "sum", "tuple", "zip"], [("MOST_PART", 999), ("WIDE_NUMBER", 10000000000000000000000000000000000000000000000000000000000000000000000000000000000000000000000000000000000000000000000000000000000000000000000000000000000000000000000000000000000000000000000000000000000000000000000000000000000000000000000000000000000000000000000000000000000000000000000000000000000000000000000000000000000000000000000000000000000000000000000000000000000000000000000000000000000000000000000000000000000000000000000000000000000000000000000000000000000000000000000000000000000000000000000000000000000000000000000000000000000000000000000000000000000000000000000000000000000000000000000000000000000000000000000000000000000000000000000000000000000000000000000000000000000000000000000000000000000000000000000000000000000000000000000000000000000000000000000000000000000000000000000000000000000000000000000000000000000000000000000000000000000000000000000000000000000000000000000000000000000000000000000000000000000000000000000000000000000000000000000000000000000000000000000000000000000000000)], [["value"], ["value", "least", "most"], ["value"], ["row", "number"], ["row"], ["value", "limit"], ["value", "at"], ["value", "limit", "at"], ["leap", "number"], ["leap"], ["row"], ["leap"], ["leap"], ["script", "salt"], ["box", "many"], ["box", "some"], ["told", "due"], ["row", "number"], ["box"], ["box"], ["leap", "edge"], ["script"]], [[(1, [])], [(3, [])], [(1, [])], [(2, [])], [(1, [])], [(2, [])], [(1, [])], [(2, [])], [(2, [])], [(1, []), (0, [0])], [(1, [])], [(0, [0]), (1, [])], [(0, [0]), (1, [])], [(2, [])], [(2, [])], [(2, [])], [(2, [])], [(2, [])], [(1, [])], [(1, [])], [(2, [])], [(1, [])]]⟩
theorem ok0 : RowOk T 0 r0 where
  S := ⟨rfl, rfl, rfl, by decide +kernel, by decide +kernel, by decide +kernel, by decide +kernel⟩
  np := rfl
  ns := rfl
  kw := rfl
  df := rfl
  dk := rfl
  ck := by decide +kernel
  sh := fun p hp => by
    have hp : p ∈ [(1, [])] := hp
    simp only [List.mem_cons, List.not_mem_nil, or_false] at hp
    rcases hp with rfl
    · exact ⟨⟨fun _ kV doc pm an cdv ct us ws l1 l2 => match us, ws, l1, l2 with | [a0], [], _, _ => ⟨_, rfl, rfl⟩, fun z => absurd rfl z⟩, rfl⟩
theorem ok1 : RowOk T 1 r1 where
  S := ⟨rfl, rfl, rfl, by decide +kernel, by decide +kernel, by decide +kernel, by decide +kernel⟩
  np := rfl
  ns := rfl
  kw := rfl
  df := rfl
  dk := rfl
  ck := by decide +kernel
  sh := fun p hp => by
    have hp : p ∈ [(3, [])] := hp
    simp only [List.mem_cons, List.not_mem_nil, or_false] at hp
    rcases hp with rfl
    · exact ⟨⟨fun _ kV doc pm an cdv ct us ws l1 l2 => match us, ws, l1, l2 with | [a0, a1, a2], [], _, _ => ⟨_, rfl, rfl⟩, fun z => absurd rfl z⟩, rfl⟩
theorem ok2 : RowOk T 2 r2 where
  S := ⟨rfl, rfl, rfl, by decide +kernel, by decide +kernel, by decide +kernel, by decide +kernel⟩
  np := rfl
  ns := rfl
  kw := rfl
  df := rfl
  dk := rfl
  ck := by decide +kernel
  sh := fun p hp => by
    have hp : p ∈ [(1, [])] := hp
    simp only [List.mem_cons, List.not_mem_nil, or_false] at hp
    rcases hp with rfl
    · exact ⟨⟨fun _ kV doc pm an cdv ct us ws l1 l2 => match us, ws, l1, l2 with | [a0], [], _, _ => ⟨_, rfl, rfl⟩, fun z => absurd rfl z⟩, rfl⟩
theorem ok3 : RowOk T 3 r3 where
  S := ⟨rfl, rfl, rfl, by decide +kernel, by decide +kernel, by decide +kernel, by decide +kernel⟩
  np := rfl
  ns := rfl
  kw := rfl
  df := rfl
  dk := rfl
  ck := by decide +kernel
  sh := fun p hp => by
    have hp : p ∈ [(2, [])] := hp
    simp only [List.mem_cons, List.not_mem_nil, or_false] at hp
    rcases hp with rfl
    · exact ⟨⟨fun _ kV doc pm an cdv ct us ws l1 l2 => match us, ws, l1, l2 with | [a0, a1], [], _, _ => ⟨_, rfl, rfl⟩, fun z => absurd rfl z⟩, rfl⟩
theorem ok4 : RowOk T 4 r4 where
  S := ⟨rfl, rfl, rfl, by decide +kernel, by decide +kernel, by decide +kernel, by decide +kernel⟩
  np := rfl
  ns := rfl
  kw := rfl
  df := rfl
  dk := rfl
  ck := by decide +kernel
  sh := fun p hp => by
    have hp : p ∈ [(1, [])] := hp
    simp only [List.mem_cons, List.not_mem_nil, or_false] at hp
    rcases hp with rfl
    · exact ⟨⟨fun _ kV doc pm an cdv ct us ws l1 l2 => match us, ws, l1, l2 with | [a0], [], _, _ => ⟨_, rfl, rfl⟩, fun z => absurd rfl z⟩, rfl⟩
theorem ok5 : RowOk T 5 r5 where
  S := ⟨rfl, rfl, rfl, by decide +kernel, by decide +kernel, by decide +kernel, by decide +kernel⟩
  np := rfl
  ns := rfl
  kw := rfl
  df := rfl
  dk := rfl
  ck := by decide +kernel
  sh := fun p hp => by
    have hp : p ∈ [(2, [])] := hp
    simp only [List.mem_cons, List.not_mem_nil, or_false] at hp
    rcases hp with rfl
    · exact ⟨⟨fun _ kV doc pm an cdv ct us ws l1 l2 => match us, ws, l1, l2 with | [a0, a1], [], _, _ => ⟨_, rfl, rfl⟩, fun z => absurd rfl z⟩, rfl⟩
theorem ok6 : RowOk T 6 r6 where
  S := ⟨rfl, rfl, rfl, by decide +kernel, by decide +kernel, by decide +kernel, by decide +kernel⟩
  np := rfl
  ns := rfl
  kw := rfl
  df := rfl
  dk := rfl
  ck := by decide +kernel
  sh := fun p hp => by
    have hp : p ∈ [(1, [])] := hp
    simp only [List.mem_cons, List.not_mem_nil, or_false] at hp
    rcases hp with rfl
    · exact ⟨⟨fun z => absurd z (by decide), fun _ T kV doc pm an cdv ct us its ws l1 l2 l3 => match us, its, ws, l1, l2, l3 with | [a0], [i0], [], _, _, _ => ⟨_, _, rfl, rfl, rfl⟩⟩, rfl⟩
theorem ok7 : RowOk T 7 r7 where
  S := ⟨rfl, rfl, rfl, by decide +kernel, by decide +kernel, by decide +kernel, by decide +kernel⟩
  np := rfl
  ns := rfl
  kw := rfl
  df := rfl
  dk := rfl
  ck := by decide +kernel
  sh := fun p hp => by
    have hp : p ∈ [(2, [])] := hp
    simp only [List.mem_cons, List.not_mem_nil, or_false] at hp
    rcases hp with rfl
    · exact ⟨⟨fun z => absurd z (by decide), fun _ T kV doc pm an cdv ct us its ws l1 l2 l3 => match us, its, ws, l1, l2, l3 with | [a0, a1], [i0], [], _, _, _ => ⟨_, _, rfl, rfl, rfl⟩⟩, rfl⟩
theorem ok8 : RowOk T 8 r8 where
  S := ⟨rfl, rfl, rfl, by decide +kernel, by decide +kernel, by decide +kernel, by decide +kernel⟩
  np := rfl
  ns := rfl
  kw := rfl
  df := rfl
  dk := rfl
  ck := by decide +kernel
  sh := fun p hp => by
    have hp : p ∈ [(2, [])] := hp
    simp only [List.mem_cons, List.not_mem_nil, or_false] at hp
    rcases hp with rfl
    · exact ⟨⟨fun _ kV doc pm an cdv ct us ws l1 l2 => match us, ws, l1, l2 with | [a0, a1], [], _, _ => ⟨_, rfl, rfl⟩, fun z => absurd rfl z⟩, rfl⟩
theorem ok9 : RowOk T 9 r9 where
  S := ⟨rfl, rfl, rfl, by decide +kernel, by decide +kernel, by decide +kernel, by decide +kernel⟩
  np := rfl
  ns := rfl
  kw := rfl
  df := rfl
  dk := rfl
  ck := by decide +kernel
  sh := fun p hp => by
    have hp : p ∈ [(1, []), (0, [0])] := hp
    simp only [List.mem_cons, List.not_mem_nil, or_false] at hp
    rcases hp with rfl | rfl
    · exact ⟨⟨fun _ kV doc pm an cdv ct us ws l1 l2 => match us, ws, l1, l2 with | [a0], [], _, _ => ⟨_, rfl, rfl⟩, fun z => absurd rfl z⟩, rfl⟩
    · exact ⟨⟨fun _ kV doc pm an cdv ct us ws l1 l2 => match us, ws, l1, l2 with | [], [w0], _, _ => ⟨_, rfl, rfl⟩, fun z => absurd rfl z⟩, rfl⟩
theorem ok10 : RowOk T 10 r10 where
  S := ⟨rfl, rfl, rfl, by decide +kernel, by decide +kernel, by decide +kernel, by decide +kernel⟩
  np := rfl
  ns := rfl
  kw := rfl
  df := rfl
  dk := rfl
  ck := by decide +kernel
  sh := fun p hp => by
    have hp : p ∈ [(1, [])] := hp
    simp only [List.mem_cons, List.not_mem_nil, or_false] at hp
    rcases hp with rfl
    · exact ⟨⟨fun _ kV doc pm an cdv ct us ws l1 l2 => match us, ws, l1, l2 with | [a0], [], _, _ => ⟨_, rfl, rfl⟩, fun z => absurd rfl z⟩, rfl⟩
theorem ok11 : RowOk T 11 r11 where
  S := ⟨rfl, rfl, rfl, by decide +kernel, by decide +kernel, by decide +kernel, by decide +kernel⟩
  np := rfl
  ns := rfl
  kw := rfl
  df := rfl
  dk := rfl
  ck := by decide +kernel
  sh := fun p hp => by
    have hp : p ∈ [(0, [0]), (1, [])] := hp
    simp only [List.mem_cons, List.not_mem_nil, or_false] at hp
    rcases hp with rfl | rfl
    · exact ⟨⟨fun _ kV doc pm an cdv ct us ws l1 l2 => match us, ws, l1, l2 with | [], [w0], _, _ => ⟨_, rfl, rfl⟩, fun z => absurd rfl z⟩, rfl⟩
    · exact ⟨⟨fun _ kV doc pm an cdv ct us ws l1 l2 => match us, ws, l1, l2 with | [a0], [], _, _ => ⟨_, rfl, rfl⟩, fun z => absurd rfl z⟩, rfl⟩
theorem ok12 : RowOk T 12 r12 where
  S := ⟨rfl, rfl, rfl, by decide +kernel, by decide +kernel, by decide +kernel, by decide +kernel⟩
  np := rfl
  ns := rfl
  kw := rfl
  df := rfl
  dk := rfl
  ck := by decide +kernel
  sh := fun p hp => by
    have hp : p ∈ [(0, [0]), (1, [])] := hp
    simp only [List.mem_cons, List.not_mem_nil, or_false] at hp
    rcases hp with rfl | rfl
    · exact ⟨⟨fun _ kV doc pm an cdv ct us ws l1 l2 => match us, ws, l1, l2 with | [], [w0], _, _ => ⟨_, rfl, rfl⟩, fun z => absurd rfl z⟩, rfl⟩
    · exact ⟨⟨fun _ kV doc pm an cdv ct us ws l1 l2 => match us, ws, l1, l2 with | [a0], [], _, _ => ⟨_, rfl, rfl⟩, fun z => absurd rfl z⟩, rfl⟩
theorem ok13 : RowOk T 13 r13 where
  S := ⟨rfl, rfl, rfl, by decide +kernel, by decide +kernel, by decide +kernel, by decide +kernel⟩
  np := rfl
  ns := rfl
  kw := rfl
  df := rfl
  dk := rfl
  ck := by decide +kernel
  sh := fun p hp => by
    have hp : p ∈ [(2, [])] := hp
    simp only [List.mem_cons, List.not_mem_nil, or_false] at hp
    rcases hp with rfl
    · exact ⟨⟨fun _ kV doc pm an cdv ct us ws l1 l2 => match us, ws, l1, l2 with | [a0, a1], [], _, _ => ⟨_, rfl, rfl⟩, fun z => absurd rfl z⟩, rfl⟩
theorem ok14 : RowOk T 14 r14 where
  S := ⟨rfl, rfl, rfl, by decide +kernel, by decide +kernel, by decide +kernel, by decide +kernel⟩
  np := rfl
  ns := rfl
  kw := rfl
  df := rfl
  dk := rfl
  ck := by decide +kernel
  sh := fun p hp => by
    have hp : p ∈ [(2, [])] := hp
    simp only [List.mem_cons, List.not_mem_nil, or_false] at hp
    rcases hp with rfl
    · exact ⟨⟨fun _ kV doc pm an cdv ct us ws l1 l2 => match us, ws, l1, l2 with | [a0, a1], [], _, _ => ⟨_, rfl, rfl⟩, fun z => absurd rfl z⟩, rfl⟩
theorem ok15 : RowOk T 15 r15 where
  S := ⟨rfl, rfl, rfl, by decide +kernel, by decide +kernel, by decide +kernel, by decide +kernel⟩
  np := rfl
  ns := rfl
  kw := rfl
  df := rfl
  dk := rfl
  ck := by decide +kernel
  sh := fun p hp => by
    have hp : p ∈ [(2, [])] := hp
    simp only [List.mem_cons, List.not_mem_nil, or_false] at hp
    rcases hp with rfl
    · exact ⟨⟨fun _ kV doc pm an cdv ct us ws l1 l2 => match us, ws, l1, l2 with | [a0, a1], [], _, _ => ⟨_, rfl, rfl⟩, fun z => absurd rfl z⟩, rfl⟩
theorem ok16 : RowOk T 16 r16 where
  S := ⟨rfl, rfl, rfl, by decide +kernel, by decide +kernel, by decide +kernel, by decide +kernel⟩
  np := rfl
  ns := rfl
  kw := rfl
  df := rfl
  dk := rfl
  ck := by decide +kernel
  sh := fun p hp => by
    have hp : p ∈ [(2, [])] := hp
    simp only [List.mem_cons, List.not_mem_nil, or_false] at hp
    rcases hp with rfl
    · exact ⟨⟨fun _ kV doc pm an cdv ct us ws l1 l2 => match us, ws, l1, l2 with | [a0, a1], [], _, _ => ⟨_, rfl, rfl⟩, fun z => absurd rfl z⟩, rfl⟩
theorem ok17 : RowOk T 17 r17 where
  S := ⟨rfl, rfl, rfl, by decide +kernel, by decide +kernel, by decide +kernel, by decide +kernel⟩
  np := rfl
  ns := rfl
  kw := rfl
  df := rfl
  dk := rfl
  ck := by decide +kernel
  sh := fun p hp => by
    have hp : p ∈ [(2, [])] := hp
    simp only [List.mem_cons, List.not_mem_nil, or_false] at hp
    rcases hp with rfl
    · exact ⟨⟨fun _ kV doc pm an cdv ct us ws l1 l2 => match us, ws, l1, l2 with | [a0, a1], [], _, _ => ⟨_, rfl, rfl⟩, fun z => absurd rfl z⟩, rfl⟩
theorem ok18 : RowOk T 18 r18 where
  S := ⟨rfl, rfl, rfl, by decide +kernel, by decide +kernel, by decide +kernel, by decide +kernel⟩
  np := rfl
  ns := rfl
  kw := rfl
  df := rfl
  dk := rfl
  ck := by decide +kernel
  sh := fun p hp => by
    have hp : p ∈ [(1, [])] := hp
    simp only [List.mem_cons, List.not_mem_nil, or_false] at hp
    rcases hp with rfl
    · exact ⟨⟨fun _ kV doc pm an cdv ct us ws l1 l2 => match us, ws, l1, l2 with | [a0], [], _, _ => ⟨_, rfl, rfl⟩, fun z => absurd rfl z⟩, rfl⟩
theorem ok19 : RowOk T 19 r19 where
  S := ⟨rfl, rfl, rfl, by decide +kernel, by decide +kernel, by decide +kernel, by decide +kernel⟩
  np := rfl
  ns := rfl
  kw := rfl
  df := rfl
  dk := rfl
  ck := by decide +kernel
  sh := fun p hp => by
    have hp : p ∈ [(1, [])] := hp
    simp only [List.mem_cons, List.not_mem_nil, or_false] at hp
    rcases hp with rfl
    · exact ⟨⟨fun _ kV doc pm an cdv ct us ws l1 l2 => match us, ws, l1, l2 with | [a0], [], _, _ => ⟨_, rfl, rfl⟩, fun z => absurd rfl z⟩, rfl⟩
theorem ok20 : RowOk T 20 r20 where
  S := ⟨rfl, rfl, rfl, by decide +kernel, by decide +kernel, by decide +kernel, by decide +kernel⟩
  np := rfl
  ns := rfl
  kw := rfl
  df := rfl
  dk := rfl
  ck := by decide +kernel
  sh := fun p hp => by
    have hp : p ∈ [(2, [])] := hp
    simp only [List.mem_cons, List.not_mem_nil, or_false] at hp
    rcases hp with rfl
    · exact ⟨⟨fun _ kV doc pm an cdv ct us ws l1 l2 => match us, ws, l1, l2 with | [a0, a1], [], _, _ => ⟨_, rfl, rfl⟩, fun z => absurd rfl z⟩, rfl⟩
theorem ok21 : RowOk T 21 r21 where
  S := ⟨rfl, rfl, rfl, by decide +kernel, by decide +kernel, by decide +kernel, by decide +kernel⟩
  np := rfl
  ns := rfl
  kw := rfl
  df := rfl
  dk := rfl
  ck := by decide +kernel
  sh := fun p hp => by
    have hp : p ∈ [(1, [])] := hp
    simp only [List.mem_cons, List.not_mem_nil, or_false] at hp
    rcases hp with rfl
    · exact ⟨⟨fun _ kV doc pm an cdv ct us ws l1 l2 => match us, ws, l1, l2 with | [a0], [], _, _ => ⟨_, rfl, rfl⟩, fun z => absurd rfl z⟩, rfl⟩
theorem oks : ∀ i r, rows[i]? = some r → RowOk T i r := fun i r h => by
  match i, h with
  | 0, h => cases h; exact ok0
  | 1, h => cases h; exact ok1
  | 2, h => cases h; exact ok2
  | 3, h => cases h; exact ok3
  | 4, h => cases h; exact ok4
  | 5, h => cases h; exact ok5
  | 6, h => cases h; exact ok6
  | 7, h => cases h; exact ok7
  | 8, h => cases h; exact ok8
  | 9, h => cases h; exact ok9
  | 10, h => cases h; exact ok10
  | 11, h => cases h; exact ok11
  | 12, h => cases h; exact ok12
  | 13, h => cases h; exact ok13
  | 14, h => cases h; exact ok14
  | 15, h => cases h; exact ok15
  | 16, h => cases h; exact ok16
  | 17, h => cases h; exact ok17
  | 18, h => cases h; exact ok18
  | 19, h => cases h; exact ok19
  | 20, h => cases h; exact ok20
  | 21, h => cases h; exact ok21
  | i + 22, h => exact absurd h (by simp [rows])
abbrev fns : Nat → Option Fn := fun f => (rows[f]?).map (·.fn)
end Lw


/-! k14: what the defs do -/
namespace Lw
open PySem PySem.Spec PyProof.Rows L2 PI
def hn (r : List Int) (x : Int) : Int := r.foldr (fun c a => a * x + c) 0
abbrev ab (x : Int) : Int := iabs x
def okc (a : Int) : Prop := -400 ≤ a ∧ a ≤ 400
def okl (a : Int) : Prop := -999 ≤ a ∧ a ≤ 999 ∧ a ≠ 0
/-- a leap -/
def LP (r : List Int) : Prop := (∃ a b, r = [a, b] ∧ okc a ∧ okl b ∧ (2 ≤ b ∨ b ≤ -2)) ∨ (∃ a b c, r = [a, b, c] ∧ okc a ∧ okc b ∧ okl c) ∨ (∃ a b c d, r = [a, b, c, d] ∧ okc a ∧ okc b ∧ okc c ∧ okl d)
def wh : List Int → Int
  | [a, _] => ab a
  | [a, b, _] => ab a + ab b
  | [a, b, c, _] => ab a + ab b + ab c
  | _ => 0
theorem ok_of {α : Type} {r : R α} {x : α} {S : Sto} (h : RQ r (fun d S' => d = x ∧ S' = S)) : r = .ok x S := by
  obtain ⟨a, S', e, rfl, rfl⟩ := h.ex
  exact e
section
variable {F k : Nat} {S : Sto}
abbrev CK (F k : Nat) : Cal := calK fns F k
theorem c_isint {n : Int} : CK F (k + 1) 0 [] [.int n] S = .ok (.bl true) S := by
  show runFn (CK F k) F f0 [.int n] S = _
  refine ok_of ?_
  rw [rq_fn]
  unfold f0 b0
  simp only [PI.w_loc, PI.w_cst, PI.w_gfn, PI.w_bin, PI.w_neg, PI.w_inv, PI.w_not, PI.w_cmp, PI.w_chn, PI.w_and, PI.w_or, PI.w_iteE, PI.w_tup, PI.w_lst, PI.w_idx, PI.w_slL, PI.w_slU, PI.w_slLU, PI.w_rev, PI.w_call, PI.w_bi, PI.w_me, PI.w_comp, PI.w_nilS, PI.w_consS, PI.w_nilT, PI.w_consT, PI.w_iex, PI.w_irng, PI.w_ienm, PI.w_izp, PI.w_irv, PI.v_nil, PI.v_cons, PI.v_pass, PI.v_brk, PI.v_cnt, PI.v_never, PI.v_set, PI.v_asg, PI.asg_tp, PI.v_aug, PI.v_seti, PI.v_ex, PI.v_ret, PI.v_retN, PI.v_ite, PI.v_whl, PI.v_for, PI.body_eq, PI.rq_ret, PI.rq_opt, PI.rq_ok, PI.rsq_ok, PI.rq_truM, PI.q_nx, PI.q_rt, PI.q_bk, PI.q_ct, List.getElem?_cons_zero, List.getElem?_cons_succ, List.set_cons_zero, List.set_cons_succ, Option.join_some, wipeE, PI.b_add, PI.b_sub, PI.b_mul, PI.b_fdiv, PI.b_mod, PI.b_pow, PI.a_add, PI.a_sub, PI.a_mul, PI.u_int, PI.c_lt, PI.c_le, PI.c_gt, PI.c_ge, PI.c_is, PI.c_isn, PI.tru_bl, PI.tru_int, PI.t_abs, t_len_t, t_len_l, PI.t_int, PI.t_intb, PI.t_isi, PI.t_max2, PI.t_min2, List.map_cons, List.map_nil, List.append_nil, List.nil_append, List.cons_append, List.length_cons, List.length_nil, List.replicate_zero, List.replicate_succ, if_true, if_false, Bool.true_and, Bool.and_true, Bool.not_true, Bool.not_false, decide_true, decide_false, asgs, PI.q_if, reduceIte, reduceCtorEq, id_eq, Option.map_some, PI.rq_ite, toInt, Nat.reduceSub, Nat.reduceAdd, deref, tyIs]
  simp
theorem c_between {v a b : Int} : CK F (k + 2) 1 [] [.int v, .int a, .int b] S = .ok (.bl (decide (a ≤ v ∧ v ≤ b))) S := by
  show runFn (CK F (k + 1)) F f1 [.int v, .int a, .int b] S = _
  refine ok_of ?_
  rw [rq_fn]
  unfold f1 b1
  simp only [PI.w_loc, PI.w_cst, PI.w_gfn, PI.w_bin, PI.w_neg, PI.w_inv, PI.w_not, PI.w_cmp, PI.w_chn, PI.w_and, PI.w_or, PI.w_iteE, PI.w_tup, PI.w_lst, PI.w_idx, PI.w_slL, PI.w_slU, PI.w_slLU, PI.w_rev, PI.w_call, PI.w_bi, PI.w_me, PI.w_comp, PI.w_nilS, PI.w_consS, PI.w_nilT, PI.w_consT, PI.w_iex, PI.w_irng, PI.w_ienm, PI.w_izp, PI.w_irv, PI.v_nil, PI.v_cons, PI.v_pass, PI.v_brk, PI.v_cnt, PI.v_never, PI.v_set, PI.v_asg, PI.asg_tp, PI.v_aug, PI.v_seti, PI.v_ex, PI.v_ret, PI.v_retN, PI.v_ite, PI.v_whl, PI.v_for, PI.body_eq, PI.rq_ret, PI.rq_opt, PI.rq_ok, PI.rsq_ok, PI.rq_truM, PI.q_nx, PI.q_rt, PI.q_bk, PI.q_ct, List.getElem?_cons_zero, List.getElem?_cons_succ, List.set_cons_zero, List.set_cons_succ, Option.join_some, wipeE, PI.b_add, PI.b_sub, PI.b_mul, PI.b_fdiv, PI.b_mod, PI.b_pow, PI.a_add, PI.a_sub, PI.a_mul, PI.u_int, PI.c_lt, PI.c_le, PI.c_gt, PI.c_ge, PI.c_is, PI.c_isn, PI.tru_bl, PI.tru_int, PI.t_abs, t_len_t, t_len_l, PI.t_int, PI.t_intb, PI.t_isi, PI.t_max2, PI.t_min2, List.map_cons, List.map_nil, List.append_nil, List.nil_append, List.cons_append, List.length_cons, List.length_nil, List.replicate_zero, List.replicate_succ, if_true, if_false, Bool.true_and, Bool.and_true, Bool.not_true, Bool.not_false, decide_true, decide_false, asgs, PI.q_if, reduceIte, reduceCtorEq, id_eq, Option.map_some, PI.rq_ite, toInt, Nat.reduceSub, Nat.reduceAdd, c_isint, deref]
  by_cases h1 : a ≤ v <;> by_cases h2 : v ≤ b <;> simp [h1, h2]
theorem c_small {v l : Int} : CK F (k + 2) 5 [] [.int v, .int l] S = .ok (.bl (decide (ab v < l))) S := by
  show runFn (CK F (k + 1)) F f5 [.int v, .int l] S = _
  refine ok_of ?_
  rw [rq_fn]
  unfold f5 b5
  simp only [PI.w_loc, PI.w_cst, PI.w_gfn, PI.w_bin, PI.w_neg, PI.w_inv, PI.w_not, PI.w_cmp, PI.w_chn, PI.w_and, PI.w_or, PI.w_iteE, PI.w_tup, PI.w_lst, PI.w_idx, PI.w_slL, PI.w_slU, PI.w_slLU, PI.w_rev, PI.w_call, PI.w_bi, PI.w_me, PI.w_comp, PI.w_nilS, PI.w_consS, PI.w_nilT, PI.w_consT, PI.w_iex, PI.w_irng, PI.w_ienm, PI.w_izp, PI.w_irv, PI.v_nil, PI.v_cons, PI.v_pass, PI.v_brk, PI.v_cnt, PI.v_never, PI.v_set, PI.v_asg, PI.asg_tp, PI.v_aug, PI.v_seti, PI.v_ex, PI.v_ret, PI.v_retN, PI.v_ite, PI.v_whl, PI.v_for, PI.body_eq, PI.rq_ret, PI.rq_opt, PI.rq_ok, PI.rsq_ok, PI.rq_truM, PI.q_nx, PI.q_rt, PI.q_bk, PI.q_ct, List.getElem?_cons_zero, List.getElem?_cons_succ, List.set_cons_zero, List.set_cons_succ, Option.join_some, wipeE, PI.b_add, PI.b_sub, PI.b_mul, PI.b_fdiv, PI.b_mod, PI.b_pow, PI.a_add, PI.a_sub, PI.a_mul, PI.u_int, PI.c_lt, PI.c_le, PI.c_gt, PI.c_ge, PI.c_is, PI.c_isn, PI.tru_bl, PI.tru_int, PI.t_abs, t_len_t, t_len_l, PI.t_int, PI.t_intb, PI.t_isi, PI.t_max2, PI.t_min2, List.map_cons, List.map_nil, List.append_nil, List.nil_append, List.cons_append, List.length_cons, List.length_nil, List.replicate_zero, List.replicate_succ, if_true, if_false, Bool.true_and, Bool.and_true, Bool.not_true, Bool.not_false, decide_true, decide_false, asgs, PI.q_if, reduceIte, reduceCtorEq, id_eq, Option.map_some, PI.rq_ite, toInt, Nat.reduceSub, Nat.reduceAdd, c_isint, deref]
  first | exact ⟨rfl, trivial⟩ | exact ⟨trivial, trivial⟩ | simp
theorem at_m1 {α : Type} {xs : List α} {x : α} : atI (xs ++ [x]) (-1) = some x := by
  unfold atI ixN
  rw [if_neg (by omega), if_pos (by rw [List.length_append]; simp only [List.length_cons, List.length_nil]; omega)]
  show (some _).bind _ = _
  rw [Option.bind_some, List.length_append, List.length_cons, List.length_nil]
  have : (-1 + ((xs.length + (0 + 1) : Nat) : Int)).toNat = xs.length := by omega
  rw [this, List.getElem?_append_right (Nat.le_refl _), Nat.sub_self]
  rfl
theorem between_t {x : Int} (h : okc x) : decide ((-999 : Int) ≤ x ∧ x ≤ 999) = true := decide_eq_true ⟨by have := h.1; omega, by have := h.2; omega⟩
theorem between_l {x : Int} (h : okl x) : decide ((-999 : Int) ≤ x ∧ x ≤ 999) = true := decide_eq_true ⟨h.1, h.2.1⟩
theorem t_all {xs : List D} {bs : List Bool} {Q : D → Sto → Prop} (h : boolL xs = some bs) : RQ (biop .all [.lst xs] S) Q = Q (.bl (bs.all id)) S := by
  show RQ (M.opt ((boolL xs).map fun ns => D.bl (ns.all id)) S) Q = _
  rw [h]
  rfl
theorem LP.facts {r : List Int} (h : LP r) : 2 ≤ r.length ∧ r.length ≤ 4 ∧ (∀ x ∈ r, decide ((-999 : Int) ≤ x ∧ x ≤ 999) = true) ∧ (∃ l c, r = l ++ [c] ∧ c ≠ 0) ∧ ∃ a b t, r = a :: b :: t ∧ (t = [] → 2 ≤ b ∨ b ≤ -2) := by
  rcases h with ⟨a, b, rfl, ha, hb, h2⟩ | ⟨a, b, c, rfl, ha, hb, hc⟩ | ⟨a, b, c, d, rfl, ha, hb, hc, hd⟩
  · refine ⟨by simp, by simp, ?_, ⟨[a], b, rfl, hb.2.2⟩, a, b, [], rfl, fun _ => h2⟩
    intro x hx
    simp only [List.mem_cons, List.not_mem_nil, or_false] at hx
    rcases hx with rfl | rfl
    · exact between_t ha
    · exact between_l hb
  · refine ⟨by simp, by simp, ?_, ⟨[a, b], c, rfl, hc.2.2⟩, a, b, [c], rfl, fun h => by cases h⟩
    intro x hx
    simp only [List.mem_cons, List.not_mem_nil, or_false] at hx
    rcases hx with rfl | rfl | rfl
    · exact between_t ha
    · exact between_t hb
    · exact between_l hc
  · refine ⟨by simp, by simp, ?_, ⟨[a, b, c], d, rfl, hd.2.2⟩, a, b, [c, d], rfl, fun h => by cases h⟩
    intro x hx
    simp only [List.mem_cons, List.not_mem_nil, or_false] at hx
    rcases hx with rfl | rfl | rfl | rfl
    · exact between_t ha
    · exact between_t hb
    · exact between_t hc
    · exact between_l hd
theorem boolL_true (xs : List D) : boolL (xs.map fun _ => D.bl true) = some (xs.map fun _ => true) := by
  unfold boolL
  induction xs with
  | nil => rfl
  | cons x xs ih => rw [List.map_cons, List.mapM_cons, ih]; rfl
theorem all_true (xs : List D) : (xs.map fun _ => true).all id = true := by
  induction xs with
  | nil => rfl
  | cons x xs ih => rw [List.map_cons, List.all_cons, ih]; rfl
theorem c_leaprow {r : List Int} (h : LP r) : CK F (k + 3) 2 [] [.tup (r.map D.int)] S = .ok (.bl true) S := by
  show runFn (CK F (k + 2)) F f2 [.tup (r.map D.int)] S = _
  refine ok_of ?_
  rw [rq_fn]
  unfold f2 b2
  obtain ⟨h1, h2, h3, ⟨l, c, h4, h5⟩, a, b, t, h6, h7⟩ := h.facts
  have e1 : atI (r.map D.int) (-1) = some (.int c) := by rw [h4, List.map_append]; exact at_m1
  have e2 : atI (r.map D.int) 1 = some (.int b) := by rw [h6]; exact at_1
  have l1 : decide ((2 : Int) ≤ ((r.map D.int).length : Nat)) = true := decide_eq_true (by rw [List.length_map]; omega)
  have l2 : decide ((((r.map D.int).length : Nat) : Int) ≤ 4) = true := decide_eq_true (by rw [List.length_map]; omega)
  simp only [PI.w_loc, PI.w_cst, PI.w_gfn, PI.w_bin, PI.w_neg, PI.w_inv, PI.w_not, PI.w_cmp, PI.w_chn, PI.w_and, PI.w_or, PI.w_iteE, PI.w_tup, PI.w_lst, PI.w_idx, PI.w_slL, PI.w_slU, PI.w_slLU, PI.w_rev, PI.w_call, PI.w_bi, PI.w_me, PI.w_comp, PI.w_nilS, PI.w_consS, PI.w_nilT, PI.w_consT, PI.w_iex, PI.w_irng, PI.w_ienm, PI.w_izp, PI.w_irv, PI.v_nil, PI.v_cons, PI.v_pass, PI.v_brk, PI.v_cnt, PI.v_never, PI.v_set, PI.v_asg, PI.asg_tp, PI.v_aug, PI.v_seti, PI.v_ex, PI.v_ret, PI.v_retN, PI.v_ite, PI.v_whl, PI.v_for, PI.body_eq, PI.rq_ret, PI.rq_opt, PI.rq_ok, PI.rsq_ok, PI.rq_truM, PI.q_nx, PI.q_rt, PI.q_bk, PI.q_ct, List.getElem?_cons_zero, List.getElem?_cons_succ, List.set_cons_zero, List.set_cons_succ, Option.join_some, wipeE, PI.b_add, PI.b_sub, PI.b_mul, PI.b_fdiv, PI.b_mod, PI.b_pow, PI.a_add, PI.a_sub, PI.a_mul, PI.u_int, PI.c_lt, PI.c_le, PI.c_gt, PI.c_ge, PI.c_is, PI.c_isn, PI.tru_bl, PI.tru_int, PI.t_abs, t_len_t, t_len_l, PI.t_int, PI.t_intb, PI.t_isi, PI.t_max2, PI.t_min2, List.map_cons, List.map_nil, List.append_nil, List.nil_append, List.cons_append, List.length_cons, List.length_nil, List.replicate_zero, List.replicate_succ, if_true, if_false, Bool.true_and, Bool.and_true, Bool.not_true, Bool.not_false, decide_true, decide_false, asgs, PI.q_if, reduceIte, reduceCtorEq, id_eq, Option.map_some, PI.rq_ite, toInt, Nat.reduceSub, Nat.reduceAdd, Int.reduceLE, Int.reduceLT, Int.reduceNeg, Nat.reduceLT, Nat.reduceLeDiff, Int.reduceEq, decide_eq_true_eq, and_true, true_and, Bool.false_eq_true, and_self, deref, tyIs, items, l1, l2]
  refine rq_map (fun _ => .bl true) (by rw [List.length_map]; omega) ?_ ?_
  · intro d hd
    obtain ⟨x, hx, rfl⟩ := List.mem_map.mp hd
    refine ⟨_, rfl, ?_⟩
    rw [elt_eq]
    simp only [PI.w_loc, PI.w_cst, PI.w_gfn, PI.w_bin, PI.w_neg, PI.w_inv, PI.w_not, PI.w_cmp, PI.w_chn, PI.w_and, PI.w_or, PI.w_iteE, PI.w_tup, PI.w_lst, PI.w_idx, PI.w_slL, PI.w_slU, PI.w_slLU, PI.w_rev, PI.w_call, PI.w_bi, PI.w_me, PI.w_comp, PI.w_nilS, PI.w_consS, PI.w_nilT, PI.w_consT, PI.w_iex, PI.w_irng, PI.w_ienm, PI.w_izp, PI.w_irv, PI.v_nil, PI.v_cons, PI.v_pass, PI.v_brk, PI.v_cnt, PI.v_never, PI.v_set, PI.v_asg, PI.asg_tp, PI.v_aug, PI.v_seti, PI.v_ex, PI.v_ret, PI.v_retN, PI.v_ite, PI.v_whl, PI.v_for, PI.body_eq, PI.rq_ret, PI.rq_opt, PI.rq_ok, PI.rsq_ok, PI.rq_truM, PI.q_nx, PI.q_rt, PI.q_bk, PI.q_ct, List.getElem?_cons_zero, List.getElem?_cons_succ, List.set_cons_zero, List.set_cons_succ, Option.join_some, wipeE, PI.b_add, PI.b_sub, PI.b_mul, PI.b_fdiv, PI.b_mod, PI.b_pow, PI.a_add, PI.a_sub, PI.a_mul, PI.u_int, PI.c_lt, PI.c_le, PI.c_gt, PI.c_ge, PI.c_is, PI.c_isn, PI.tru_bl, PI.tru_int, PI.t_abs, t_len_t, t_len_l, PI.t_int, PI.t_intb, PI.t_isi, PI.t_max2, PI.t_min2, List.map_cons, List.map_nil, List.append_nil, List.nil_append, List.cons_append, List.length_cons, List.length_nil, List.replicate_zero, List.replicate_succ, if_true, if_false, Bool.true_and, Bool.and_true, Bool.not_true, Bool.not_false, decide_true, decide_false, asgs, PI.q_if, reduceIte, reduceCtorEq, id_eq, Option.map_some, PI.rq_ite, toInt, Nat.reduceSub, Nat.reduceAdd, Int.reduceLE, Int.reduceLT, Int.reduceNeg, Nat.reduceLT, Nat.reduceLeDiff, Int.reduceEq, decide_eq_true_eq, and_true, true_and, Bool.false_eq_true, and_self, c_between, h3 x hx]
  · have hl : ((r.map D.int).map fun _ => D.bl true).length ≤ lim := ilim (by simp only [List.length_map]; omega)
    rw [newL_t hl, t_all (boolL_true _), all_true]
    simp only [PI.w_loc, PI.w_cst, PI.w_gfn, PI.w_bin, PI.w_neg, PI.w_inv, PI.w_not, PI.w_cmp, PI.w_chn, PI.w_and, PI.w_or, PI.w_iteE, PI.w_tup, PI.w_lst, PI.w_idx, PI.w_slL, PI.w_slU, PI.w_slLU, PI.w_rev, PI.w_call, PI.w_bi, PI.w_me, PI.w_comp, PI.w_nilS, PI.w_consS, PI.w_nilT, PI.w_consT, PI.w_iex, PI.w_irng, PI.w_ienm, PI.w_izp, PI.w_irv, PI.v_nil, PI.v_cons, PI.v_pass, PI.v_brk, PI.v_cnt, PI.v_never, PI.v_set, PI.v_asg, PI.asg_tp, PI.v_aug, PI.v_seti, PI.v_ex, PI.v_ret, PI.v_retN, PI.v_ite, PI.v_whl, PI.v_for, PI.body_eq, PI.rq_ret, PI.rq_opt, PI.rq_ok, PI.rsq_ok, PI.rq_truM, PI.q_nx, PI.q_rt, PI.q_bk, PI.q_ct, List.getElem?_cons_zero, List.getElem?_cons_succ, List.set_cons_zero, List.set_cons_succ, Option.join_some, wipeE, PI.b_add, PI.b_sub, PI.b_mul, PI.b_fdiv, PI.b_mod, PI.b_pow, PI.a_add, PI.a_sub, PI.a_mul, PI.u_int, PI.c_lt, PI.c_le, PI.c_gt, PI.c_ge, PI.c_is, PI.c_isn, PI.tru_bl, PI.tru_int, PI.t_abs, t_len_t, t_len_l, PI.t_int, PI.t_intb, PI.t_isi, PI.t_max2, PI.t_min2, List.map_cons, List.map_nil, List.append_nil, List.nil_append, List.cons_append, List.length_cons, List.length_nil, List.replicate_zero, List.replicate_succ, if_true, if_false, Bool.true_and, Bool.and_true, Bool.not_true, Bool.not_false, decide_true, decide_false, asgs, PI.q_if, reduceIte, reduceCtorEq, id_eq, Option.map_some, PI.rq_ite, toInt, Nat.reduceSub, Nat.reduceAdd, Int.reduceLE, Int.reduceLT, Int.reduceNeg, Nat.reduceLT, Nat.reduceLeDiff, Int.reduceEq, decide_eq_true_eq, and_true, true_and, Bool.false_eq_true, and_self, rq_idxT, e1, e2, c_eq, c_ne]
    rw [if_neg h5]
    split
    · rename_i h; rw [decide_eq_true h]
    · rename_i h
      have ht : t = [] := by
        rw [List.length_map, h6] at h
        cases t with
        | nil => rfl
        | cons _ _ => simp only [List.length_cons] at h; omega
      have h8 := h7 ht
      have : ¬ iabs b = 1 := by unfold iabs; split <;> omega
      rw [decide_eq_false this]
      rfl
theorem c_need {r : List Int} (h : LP r) : CK F (k + 4) 6 [] [.tup (r.map D.int)] S = .ok (.tup (r.map D.int)) S := by
  show runFn (CK F (k + 3)) F f6 [.tup (r.map D.int), .int (-1)] S = _
  refine ok_of ?_
  rw [rq_fn]
  unfold f6 b6
  simp only [PI.w_loc, PI.w_cst, PI.w_gfn, PI.w_bin, PI.w_neg, PI.w_inv, PI.w_not, PI.w_cmp, PI.w_chn, PI.w_and, PI.w_or, PI.w_iteE, PI.w_tup, PI.w_lst, PI.w_idx, PI.w_slL, PI.w_slU, PI.w_slLU, PI.w_rev, PI.w_call, PI.w_bi, PI.w_me, PI.w_comp, PI.w_nilS, PI.w_consS, PI.w_nilT, PI.w_consT, PI.w_iex, PI.w_irng, PI.w_ienm, PI.w_izp, PI.w_irv, PI.v_nil, PI.v_cons, PI.v_pass, PI.v_brk, PI.v_cnt, PI.v_never, PI.v_set, PI.v_asg, PI.asg_tp, PI.v_aug, PI.v_seti, PI.v_ex, PI.v_ret, PI.v_retN, PI.v_ite, PI.v_whl, PI.v_for, PI.body_eq, PI.rq_ret, PI.rq_opt, PI.rq_ok, PI.rsq_ok, PI.rq_truM, PI.q_nx, PI.q_rt, PI.q_bk, PI.q_ct, List.getElem?_cons_zero, List.getElem?_cons_succ, List.set_cons_zero, List.set_cons_succ, Option.join_some, wipeE, PI.b_add, PI.b_sub, PI.b_mul, PI.b_fdiv, PI.b_mod, PI.b_pow, PI.a_add, PI.a_sub, PI.a_mul, PI.u_int, PI.c_lt, PI.c_le, PI.c_gt, PI.c_ge, PI.c_is, PI.c_isn, PI.tru_bl, PI.tru_int, PI.t_abs, t_len_t, t_len_l, PI.t_int, PI.t_intb, PI.t_isi, PI.t_max2, PI.t_min2, List.map_cons, List.map_nil, List.append_nil, List.nil_append, List.cons_append, List.length_cons, List.length_nil, List.replicate_zero, List.replicate_succ, if_true, if_false, Bool.true_and, Bool.and_true, Bool.not_true, Bool.not_false, decide_true, decide_false, asgs, PI.q_if, reduceIte, reduceCtorEq, id_eq, Option.map_some, PI.rq_ite, toInt, Nat.reduceSub, Nat.reduceAdd, Int.reduceLE, Int.reduceLT, Int.reduceNeg, Nat.reduceLT, Nat.reduceLeDiff, Int.reduceEq, decide_eq_true_eq, and_true, true_and, Bool.false_eq_true, and_self, c_leaprow h]
theorem c_needs {v l : Int} (h : ab v < l) : CK F (k + 3) 7 [] [.int v, .int l] S = .ok (.int v) S := by
  show runFn (CK F (k + 2)) F f7 [.int v, .int l, .int (-1)] S = _
  refine ok_of ?_
  rw [rq_fn]
  unfold f7 b7
  simp only [PI.w_loc, PI.w_cst, PI.w_gfn, PI.w_bin, PI.w_neg, PI.w_inv, PI.w_not, PI.w_cmp, PI.w_chn, PI.w_and, PI.w_or, PI.w_iteE, PI.w_tup, PI.w_lst, PI.w_idx, PI.w_slL, PI.w_slU, PI.w_slLU, PI.w_rev, PI.w_call, PI.w_bi, PI.w_me, PI.w_comp, PI.w_nilS, PI.w_consS, PI.w_nilT, PI.w_consT, PI.w_iex, PI.w_irng, PI.w_ienm, PI.w_izp, PI.w_irv, PI.v_nil, PI.v_cons, PI.v_pass, PI.v_brk, PI.v_cnt, PI.v_never, PI.v_set, PI.v_asg, PI.asg_tp, PI.v_aug, PI.v_seti, PI.v_ex, PI.v_ret, PI.v_retN, PI.v_ite, PI.v_whl, PI.v_for, PI.body_eq, PI.rq_ret, PI.rq_opt, PI.rq_ok, PI.rsq_ok, PI.rq_truM, PI.q_nx, PI.q_rt, PI.q_bk, PI.q_ct, List.getElem?_cons_zero, List.getElem?_cons_succ, List.set_cons_zero, List.set_cons_succ, Option.join_some, wipeE, PI.b_add, PI.b_sub, PI.b_mul, PI.b_fdiv, PI.b_mod, PI.b_pow, PI.a_add, PI.a_sub, PI.a_mul, PI.u_int, PI.c_lt, PI.c_le, PI.c_gt, PI.c_ge, PI.c_is, PI.c_isn, PI.tru_bl, PI.tru_int, PI.t_abs, t_len_t, t_len_l, PI.t_int, PI.t_intb, PI.t_isi, PI.t_max2, PI.t_min2, List.map_cons, List.map_nil, List.append_nil, List.nil_append, List.cons_append, List.length_cons, List.length_nil, List.replicate_zero, List.replicate_succ, if_true, if_false, Bool.true_and, Bool.and_true, Bool.not_true, Bool.not_false, decide_true, decide_false, asgs, PI.q_if, reduceIte, reduceCtorEq, id_eq, Option.map_some, PI.rq_ite, toInt, Nat.reduceSub, Nat.reduceAdd, Int.reduceLE, Int.reduceLT, Int.reduceNeg, Nat.reduceLT, Nat.reduceLeDiff, Int.reduceEq, decide_eq_true_eq, and_true, true_and, Bool.false_eq_true, and_self, c_small, decide_eq_true h]
/-! values -/
theorem hn_bd {x : Int} (hx : x.natAbs < 2 ^ 110) : ∀ (s : List Int), (∀ c ∈ s, c.natAbs < 2 ^ 10) → (hn s x).natAbs < 2 ^ (111 * s.length + 10)
  | [], _ => by
    show (0 : Int).natAbs < _
    exact Nat.pow_pos (by decide)
  | c :: s, h => by
    have ih := hn_bd hx s fun c hc => h c (List.mem_cons_of_mem _ hc)
    have hc := h c List.mem_cons_self
    have e : (hn (c :: s) x).natAbs ≤ (hn s x).natAbs * x.natAbs + c.natAbs := by
      show (hn s x * x + c).natAbs ≤ _
      exact Nat.le_trans (Int.natAbs_add_le _ _) (by rw [Int.natAbs_mul]; exact Nat.le_refl _)
    have m : (hn s x).natAbs * x.natAbs ≤ 2 ^ (111 * s.length + 10) * 2 ^ 110 := Nat.mul_le_mul (Nat.le_of_lt ih) (Nat.le_of_lt hx)
    have p : 2 ^ 10 ≤ 2 ^ (111 * s.length + 10) * 2 ^ 110 := by
      rw [← Nat.pow_add]
      exact Nat.pow_le_pow_right (by decide) (by omega)
    have q : 2 ^ (111 * (c :: s).length + 10) = 2 * (2 ^ (111 * s.length + 10) * 2 ^ 110) := by
      rw [← Nat.pow_add, ← Nat.pow_succ', List.length_cons]
      congr 1
    rw [q]
    omega
theorem LP.small {r : List Int} (h : LP r) : r.length ≤ 4 ∧ ∀ c ∈ r, c.natAbs < 2 ^ 10 := by
  obtain ⟨h1, h2, h3, _⟩ := h.facts
  refine ⟨h2, fun c hc => ?_⟩
  have := of_decide_eq_true (h3 c hc)
  omega
theorem mul_hn {s : List Int} {x : Int} (hl : s.length ≤ 4) (h : ∀ c ∈ s, c.natAbs < 2 ^ 10) (hx : x.natAbs < 2 ^ 110) : mulX (hn s x) x := by
  left
  have h1 : bits (hn s x) ≤ 111 * s.length + 10 := bits_le _ (hn_bd hx s h)
  have h2 : bits x ≤ 110 := bits_le _ hx
  omega
theorem worth_loop {C : Cal} {r : List Int} {x : Int} (hs : r.length ≤ 4 ∧ ∀ c ∈ r, c.natAbs < 2 ^ 10) (hx : x.natAbs < 2 ^ 110) {row : Option D} {Q : Fl → PI.Env → Sto → Prop} {o : Option D} (hq : ∀ o, Q .nx [row, some (.int x), some (.int (hn r x)), o] S) :
    RSQ (forL (.nm 3) (bodyF C F (.cons (.set 2 (.bin .add (.bin .mul (.loc 2) (.loc 1)) (.loc 3))) .nil)) (r.map D.int).reverse [row, some (.int x), some (.int 0), o] S) Q := by
  refine rsq_for (fun i ρ S' => S' = S ∧ ∃ o, ρ = [row, some (.int x), some (.int (hn (r.drop (r.length - i)) x)), o]) ⟨rfl, o, by rw [Nat.sub_zero, List.drop_length]; rfl⟩ ?_ ?_
  · rintro i d ρ S' hd ⟨rfl, o, rfl⟩
    have hi : i < r.length := by
      have := (List.getElem?_eq_some_iff.mp hd).1
      rw [List.length_reverse, List.length_map] at this
      exact this
    have hj : r.length - 1 - i < r.length := by omega
    have hd' : d = .int (r[r.length - 1 - i]) := by
      rw [List.getElem?_reverse (by rw [List.length_map]; exact hi), List.length_map, List.getElem?_map, List.getElem?_eq_getElem hj] at hd
      exact (Option.some.inj hd).symm
    subst hd'
    refine ⟨_, rfl, ?_⟩
    have hdrop : r.drop (r.length - (i + 1)) = r[r.length - 1 - i] :: r.drop (r.length - i) := by
      rw [show r.length - (i + 1) = r.length - 1 - i by omega, List.drop_eq_getElem_cons hj]
      congr 2
      omega
    simp only [PI.w_loc, PI.w_cst, PI.w_gfn, PI.w_bin, PI.w_neg, PI.w_inv, PI.w_not, PI.w_cmp, PI.w_chn, PI.w_and, PI.w_or, PI.w_iteE, PI.w_tup, PI.w_lst, PI.w_idx, PI.w_slL, PI.w_slU, PI.w_slLU, PI.w_rev, PI.w_call, PI.w_bi, PI.w_me, PI.w_comp, PI.w_nilS, PI.w_consS, PI.w_nilT, PI.w_consT, PI.w_iex, PI.w_irng, PI.w_ienm, PI.w_izp, PI.w_irv, PI.v_nil, PI.v_cons, PI.v_pass, PI.v_brk, PI.v_cnt, PI.v_never, PI.v_set, PI.v_asg, PI.asg_tp, PI.v_aug, PI.v_seti, PI.v_ex, PI.v_ret, PI.v_retN, PI.v_ite, PI.v_whl, PI.v_for, PI.body_eq, PI.rq_ret, PI.rq_opt, PI.rq_ok, PI.rsq_ok, PI.rq_truM, PI.q_nx, PI.q_rt, PI.q_bk, PI.q_ct, List.getElem?_cons_zero, List.getElem?_cons_succ, List.set_cons_zero, List.set_cons_succ, Option.join_some, wipeE, PI.b_add, PI.b_sub, PI.b_mul, PI.b_fdiv, PI.b_mod, PI.b_pow, PI.a_add, PI.a_sub, PI.a_mul, PI.u_int, PI.c_lt, PI.c_le, PI.c_gt, PI.c_ge, PI.c_is, PI.c_isn, PI.tru_bl, PI.tru_int, PI.t_abs, t_len_t, t_len_l, PI.t_int, PI.t_intb, PI.t_isi, PI.t_max2, PI.t_min2, List.map_cons, List.map_nil, List.append_nil, List.nil_append, List.cons_append, List.length_cons, List.length_nil, List.replicate_zero, List.replicate_succ, if_true, if_false, Bool.true_and, Bool.and_true, Bool.not_true, Bool.not_false, decide_true, decide_false, asgs, PI.q_if, reduceIte, reduceCtorEq, id_eq, Option.map_some, PI.rq_ite, toInt, Nat.reduceSub, Nat.reduceAdd, Int.reduceLE, Int.reduceLT, Int.reduceNeg, Nat.reduceLT, Nat.reduceLeDiff, Int.reduceEq, decide_eq_true_eq, and_true, true_and, Bool.false_eq_true, and_self]
    refine ⟨mul_hn (by rw [List.length_drop]; omega) (fun c hc => hs.2 c (List.mem_of_mem_drop hc)) hx, _, by rw [hdrop]; rfl⟩
  · rintro ρ S' ⟨rfl, o, rfl⟩
    rw [List.length_reverse, List.length_map, Nat.sub_self, List.drop_zero]
    exact hq o
theorem c_worth {r : List Int} {x : Int} (h : LP r) (hx : x.natAbs < 2 ^ 110) : CK F (k + 1) 3 [] [.tup (r.map D.int), .int x] S = .ok (.int (hn r x)) S := by
  show runFn (CK F k) F f3 [.tup (r.map D.int), .int x] S = _
  refine ok_of ?_
  rw [rq_fn]
  unfold f3 b3
  simp only [PI.w_loc, PI.w_cst, PI.w_gfn, PI.w_bin, PI.w_neg, PI.w_inv, PI.w_not, PI.w_cmp, PI.w_chn, PI.w_and, PI.w_or, PI.w_iteE, PI.w_tup, PI.w_lst, PI.w_idx, PI.w_slL, PI.w_slU, PI.w_slLU, PI.w_rev, PI.w_call, PI.w_bi, PI.w_me, PI.w_comp, PI.w_nilS, PI.w_consS, PI.w_nilT, PI.w_consT, PI.w_iex, PI.w_irng, PI.w_ienm, PI.w_izp, PI.w_irv, PI.v_nil, PI.v_cons, PI.v_pass, PI.v_brk, PI.v_cnt, PI.v_never, PI.v_set, PI.v_asg, PI.asg_tp, PI.v_aug, PI.v_seti, PI.v_ex, PI.v_ret, PI.v_retN, PI.v_ite, PI.v_whl, PI.v_for, PI.body_eq, PI.rq_ret, PI.rq_opt, PI.rq_ok, PI.rsq_ok, PI.rq_truM, PI.q_nx, PI.q_rt, PI.q_bk, PI.q_ct, List.getElem?_cons_zero, List.getElem?_cons_succ, List.set_cons_zero, List.set_cons_succ, Option.join_some, wipeE, PI.b_add, PI.b_sub, PI.b_mul, PI.b_fdiv, PI.b_mod, PI.b_pow, PI.a_add, PI.a_sub, PI.a_mul, PI.u_int, PI.c_lt, PI.c_le, PI.c_gt, PI.c_ge, PI.c_is, PI.c_isn, PI.tru_bl, PI.tru_int, PI.t_abs, t_len_t, t_len_l, PI.t_int, PI.t_intb, PI.t_isi, PI.t_max2, PI.t_min2, List.map_cons, List.map_nil, List.append_nil, List.nil_append, List.cons_append, List.length_cons, List.length_nil, List.replicate_zero, List.replicate_succ, if_true, if_false, Bool.true_and, Bool.and_true, Bool.not_true, Bool.not_false, decide_true, decide_false, asgs, PI.q_if, reduceIte, reduceCtorEq, id_eq, Option.map_some, PI.rq_ite, toInt, Nat.reduceSub, Nat.reduceAdd, Int.reduceLE, Int.reduceLT, Int.reduceNeg, Nat.reduceLT, Nat.reduceLeDiff, Int.reduceEq, decide_eq_true_eq, and_true, true_and, Bool.false_eq_true, and_self, items]
  exact worth_loop h.small hx fun o => by simp only [PI.w_loc, PI.w_cst, PI.w_gfn, PI.w_bin, PI.w_neg, PI.w_inv, PI.w_not, PI.w_cmp, PI.w_chn, PI.w_and, PI.w_or, PI.w_iteE, PI.w_tup, PI.w_lst, PI.w_idx, PI.w_slL, PI.w_slU, PI.w_slLU, PI.w_rev, PI.w_call, PI.w_bi, PI.w_me, PI.w_comp, PI.w_nilS, PI.w_consS, PI.w_nilT, PI.w_consT, PI.w_iex, PI.w_irng, PI.w_ienm, PI.w_izp, PI.w_irv, PI.v_nil, PI.v_cons, PI.v_pass, PI.v_brk, PI.v_cnt, PI.v_never, PI.v_set, PI.v_asg, PI.asg_tp, PI.v_aug, PI.v_seti, PI.v_ex, PI.v_ret, PI.v_retN, PI.v_ite, PI.v_whl, PI.v_for, PI.body_eq, PI.rq_ret, PI.rq_opt, PI.rq_ok, PI.rsq_ok, PI.rq_truM, PI.q_nx, PI.q_rt, PI.q_bk, PI.q_ct, List.getElem?_cons_zero, List.getElem?_cons_succ, List.set_cons_zero, List.set_cons_succ, Option.join_some, wipeE, PI.b_add, PI.b_sub, PI.b_mul, PI.b_fdiv, PI.b_mod, PI.b_pow, PI.a_add, PI.a_sub, PI.a_mul, PI.u_int, PI.c_lt, PI.c_le, PI.c_gt, PI.c_ge, PI.c_is, PI.c_isn, PI.tru_bl, PI.tru_int, PI.t_abs, t_len_t, t_len_l, PI.t_int, PI.t_intb, PI.t_isi, PI.t_max2, PI.t_min2, List.map_cons, List.map_nil, List.append_nil, List.nil_append, List.cons_append, List.length_cons, List.length_nil, List.replicate_zero, List.replicate_succ, if_true, if_false, Bool.true_and, Bool.and_true, Bool.not_true, Bool.not_false, decide_true, decide_false, asgs, PI.q_if, reduceIte, reduceCtorEq, id_eq, Option.map_some, PI.rq_ite, toInt, Nat.reduceSub, Nat.reduceAdd, Int.reduceLE, Int.reduceLT, Int.reduceNeg, Nat.reduceLT, Nat.reduceLeDiff, Int.reduceEq, decide_eq_true_eq, and_true, true_and, Bool.false_eq_true, and_self]
theorem rev_t {xs : List D} {Q : D → Sto → Prop} : RQ (revop (.tup xs) S) Q = Q (.tup xs.reverse) S := rfl
theorem c_lworth {r : List Int} {x : Int} (h : LP r) (hx : x.natAbs < 2 ^ 110) : CK F (k + 1) 17 [] [.tup (r.map D.int), .int x] S = .ok (.int (hn r x)) S := by
  show runFn (CK F k) F f17 [.tup (r.map D.int), .int x] S = _
  refine ok_of ?_
  rw [rq_fn]
  unfold f17 b17
  simp only [PI.w_loc, PI.w_cst, PI.w_gfn, PI.w_bin, PI.w_neg, PI.w_inv, PI.w_not, PI.w_cmp, PI.w_chn, PI.w_and, PI.w_or, PI.w_iteE, PI.w_tup, PI.w_lst, PI.w_idx, PI.w_slL, PI.w_slU, PI.w_slLU, PI.w_rev, PI.w_call, PI.w_bi, PI.w_me, PI.w_comp, PI.w_nilS, PI.w_consS, PI.w_nilT, PI.w_consT, PI.w_iex, PI.w_irng, PI.w_ienm, PI.w_izp, PI.w_irv, PI.v_nil, PI.v_cons, PI.v_pass, PI.v_brk, PI.v_cnt, PI.v_never, PI.v_set, PI.v_asg, PI.asg_tp, PI.v_aug, PI.v_seti, PI.v_ex, PI.v_ret, PI.v_retN, PI.v_ite, PI.v_whl, PI.v_for, PI.body_eq, PI.rq_ret, PI.rq_opt, PI.rq_ok, PI.rsq_ok, PI.rq_truM, PI.q_nx, PI.q_rt, PI.q_bk, PI.q_ct, List.getElem?_cons_zero, List.getElem?_cons_succ, List.set_cons_zero, List.set_cons_succ, Option.join_some, wipeE, PI.b_add, PI.b_sub, PI.b_mul, PI.b_fdiv, PI.b_mod, PI.b_pow, PI.a_add, PI.a_sub, PI.a_mul, PI.u_int, PI.c_lt, PI.c_le, PI.c_gt, PI.c_ge, PI.c_is, PI.c_isn, PI.tru_bl, PI.tru_int, PI.t_abs, t_len_t, t_len_l, PI.t_int, PI.t_intb, PI.t_isi, PI.t_max2, PI.t_min2, List.map_cons, List.map_nil, List.append_nil, List.nil_append, List.cons_append, List.length_cons, List.length_nil, List.replicate_zero, List.replicate_succ, if_true, if_false, Bool.true_and, Bool.and_true, Bool.not_true, Bool.not_false, decide_true, decide_false, asgs, PI.q_if, reduceIte, reduceCtorEq, id_eq, Option.map_some, PI.rq_ite, toInt, Nat.reduceSub, Nat.reduceAdd, Int.reduceLE, Int.reduceLT, Int.reduceNeg, Nat.reduceLT, Nat.reduceLeDiff, Int.reduceEq, decide_eq_true_eq, and_true, true_and, Bool.false_eq_true, and_self, items, rev_t]
  exact worth_loop h.small hx fun o => by simp only [PI.w_loc, PI.w_cst, PI.w_gfn, PI.w_bin, PI.w_neg, PI.w_inv, PI.w_not, PI.w_cmp, PI.w_chn, PI.w_and, PI.w_or, PI.w_iteE, PI.w_tup, PI.w_lst, PI.w_idx, PI.w_slL, PI.w_slU, PI.w_slLU, PI.w_rev, PI.w_call, PI.w_bi, PI.w_me, PI.w_comp, PI.w_nilS, PI.w_consS, PI.w_nilT, PI.w_consT, PI.w_iex, PI.w_irng, PI.w_ienm, PI.w_izp, PI.w_irv, PI.v_nil, PI.v_cons, PI.v_pass, PI.v_brk, PI.v_cnt, PI.v_never, PI.v_set, PI.v_asg, PI.asg_tp, PI.v_aug, PI.v_seti, PI.v_ex, PI.v_ret, PI.v_retN, PI.v_ite, PI.v_whl, PI.v_for, PI.body_eq, PI.rq_ret, PI.rq_opt, PI.rq_ok, PI.rsq_ok, PI.rq_truM, PI.q_nx, PI.q_rt, PI.q_bk, PI.q_ct, List.getElem?_cons_zero, List.getElem?_cons_succ, List.set_cons_zero, List.set_cons_succ, Option.join_some, wipeE, PI.b_add, PI.b_sub, PI.b_mul, PI.b_fdiv, PI.b_mod, PI.b_pow, PI.a_add, PI.a_sub, PI.a_mul, PI.u_int, PI.c_lt, PI.c_le, PI.c_gt, PI.c_ge, PI.c_is, PI.c_isn, PI.tru_bl, PI.tru_int, PI.t_abs, t_len_t, t_len_l, PI.t_int, PI.t_intb, PI.t_isi, PI.t_max2, PI.t_min2, List.map_cons, List.map_nil, List.append_nil, List.nil_append, List.cons_append, List.length_cons, List.length_nil, List.replicate_zero, List.replicate_succ, if_true, if_false, Bool.true_and, Bool.and_true, Bool.not_true, Bool.not_false, decide_true, decide_false, asgs, PI.q_if, reduceIte, reduceCtorEq, id_eq, Option.map_some, PI.rq_ite, toInt, Nat.reduceSub, Nat.reduceAdd, Int.reduceLE, Int.reduceLT, Int.reduceNeg, Nat.reduceLT, Nat.reduceLeDiff, Int.reduceEq, decide_eq_true_eq, and_true, true_and, Bool.false_eq_true, and_self]
/-! sums -/
def absD : D → D
  | .int x => .int (ab x)
  | d => d
theorem sum_comp {C : Cal} {r : List Int} (h : r.length ≤ 4) {ρ : PI.Env} {i : Nat} (hi : i < ρ.length) {Q : List D → Sto → Prop} (hq : Q ((r.map ab).map D.int) S) : RQ (compL (.nm i) (tstF C .nil) (eltF C (.bi .abs (.cons (.loc i) .nil))) ρ (r.map D.int) 0 S) Q := by
  refine rq_map absD (by rw [List.length_map]; omega) ?_ ?_
  · intro d hd
    obtain ⟨x, hx, rfl⟩ := List.mem_map.mp hd
    refine ⟨_, rfl, ?_⟩
    rw [elt_eq]
    simp only [PI.w_loc, PI.w_cst, PI.w_gfn, PI.w_bin, PI.w_neg, PI.w_inv, PI.w_not, PI.w_cmp, PI.w_chn, PI.w_and, PI.w_or, PI.w_iteE, PI.w_tup, PI.w_lst, PI.w_idx, PI.w_slL, PI.w_slU, PI.w_slLU, PI.w_rev, PI.w_call, PI.w_bi, PI.w_me, PI.w_comp, PI.w_nilS, PI.w_consS, PI.w_nilT, PI.w_consT, PI.w_iex, PI.w_irng, PI.w_ienm, PI.w_izp, PI.w_irv, PI.v_nil, PI.v_cons, PI.v_pass, PI.v_brk, PI.v_cnt, PI.v_never, PI.v_set, PI.v_asg, PI.asg_tp, PI.v_aug, PI.v_seti, PI.v_ex, PI.v_ret, PI.v_retN, PI.v_ite, PI.v_whl, PI.v_for, PI.body_eq, PI.rq_ret, PI.rq_opt, PI.rq_ok, PI.rsq_ok, PI.rq_truM, PI.q_nx, PI.q_rt, PI.q_bk, PI.q_ct, List.getElem?_cons_zero, List.getElem?_cons_succ, List.set_cons_zero, List.set_cons_succ, Option.join_some, wipeE, PI.b_add, PI.b_sub, PI.b_mul, PI.b_fdiv, PI.b_mod, PI.b_pow, PI.a_add, PI.a_sub, PI.a_mul, PI.u_int, PI.c_lt, PI.c_le, PI.c_gt, PI.c_ge, PI.c_is, PI.c_isn, PI.tru_bl, PI.tru_int, PI.t_abs, t_len_t, t_len_l, PI.t_int, PI.t_intb, PI.t_isi, PI.t_max2, PI.t_min2, List.map_cons, List.map_nil, List.append_nil, List.nil_append, List.cons_append, List.length_cons, List.length_nil, List.replicate_zero, List.replicate_succ, if_true, if_false, Bool.true_and, Bool.and_true, Bool.not_true, Bool.not_false, decide_true, decide_false, asgs, PI.q_if, reduceIte, reduceCtorEq, id_eq, Option.map_some, PI.rq_ite, toInt, Nat.reduceSub, Nat.reduceAdd, Int.reduceLE, Int.reduceLT, Int.reduceNeg, Nat.reduceLT, Nat.reduceLeDiff, Int.reduceEq, decide_eq_true_eq, and_true, true_and, Bool.false_eq_true, and_self, List.getElem?_set_self hi]
    rfl
  · rw [List.map_map] at hq ⊢
    exact hq
theorem t_sum {xs : List Int} {Q : D → Sto → Prop} : RQ (biop .sum [.lst (xs.map D.int)] S) Q = Q (.int xs.sum) S := by
  show RQ (M.opt ((intL (xs.map D.int)).map fun ns => D.int ns.sum) S) Q = _
  have : intL (xs.map D.int) = some xs := by
    unfold intL
    induction xs with
    | nil => rfl
    | cons x xs ih => rw [List.map_cons, List.mapM_cons, ih]; rfl
  rw [this]
  rfl
theorem LP.cut {r : List Int} (h : LP r) : ∃ l : List Int, cutL (r.map D.int) none (some (-1)) = l.map D.int ∧ l.length ≤ 3 ∧ (l.map ab).sum = wh r := by
  rcases h with ⟨a, b, rfl, _⟩ | ⟨a, b, c, rfl, _⟩ | ⟨a, b, c, d, rfl, _⟩
  · exact ⟨[a], rfl, by simp, by simp [wh]⟩
  · exact ⟨[a, b], rfl, by simp, by simp [wh]⟩
  · exact ⟨[a, b, c], rfl, by simp, by simp [wh]; omega⟩
theorem c_sumof {r : List Int} (h : LP r) : CK F (k + 1) 4 [] [.tup (r.map D.int)] S = .ok (.int (wh r)) S := by
  show runFn (CK F k) F f4 [.tup (r.map D.int)] S = _
  refine ok_of ?_
  rw [rq_fn]
  unfold f4 b4
  obtain ⟨l, e1, e2, e3⟩ := h.cut
  simp only [PI.w_loc, PI.w_cst, PI.w_gfn, PI.w_bin, PI.w_neg, PI.w_inv, PI.w_not, PI.w_cmp, PI.w_chn, PI.w_and, PI.w_or, PI.w_iteE, PI.w_tup, PI.w_lst, PI.w_idx, PI.w_slL, PI.w_slU, PI.w_slLU, PI.w_rev, PI.w_call, PI.w_bi, PI.w_me, PI.w_comp, PI.w_nilS, PI.w_consS, PI.w_nilT, PI.w_consT, PI.w_iex, PI.w_irng, PI.w_ienm, PI.w_izp, PI.w_irv, PI.v_nil, PI.v_cons, PI.v_pass, PI.v_brk, PI.v_cnt, PI.v_never, PI.v_set, PI.v_asg, PI.asg_tp, PI.v_aug, PI.v_seti, PI.v_ex, PI.v_ret, PI.v_retN, PI.v_ite, PI.v_whl, PI.v_for, PI.body_eq, PI.rq_ret, PI.rq_opt, PI.rq_ok, PI.rsq_ok, PI.rq_truM, PI.q_nx, PI.q_rt, PI.q_bk, PI.q_ct, List.getElem?_cons_zero, List.getElem?_cons_succ, List.set_cons_zero, List.set_cons_succ, Option.join_some, wipeE, PI.b_add, PI.b_sub, PI.b_mul, PI.b_fdiv, PI.b_mod, PI.b_pow, PI.a_add, PI.a_sub, PI.a_mul, PI.u_int, PI.c_lt, PI.c_le, PI.c_gt, PI.c_ge, PI.c_is, PI.c_isn, PI.tru_bl, PI.tru_int, PI.t_abs, t_len_t, t_len_l, PI.t_int, PI.t_intb, PI.t_isi, PI.t_max2, PI.t_min2, List.map_cons, List.map_nil, List.append_nil, List.nil_append, List.cons_append, List.length_cons, List.length_nil, List.replicate_zero, List.replicate_succ, if_true, if_false, Bool.true_and, Bool.and_true, Bool.not_true, Bool.not_false, decide_true, decide_false, asgs, PI.q_if, reduceIte, reduceCtorEq, id_eq, Option.map_some, PI.rq_ite, toInt, Nat.reduceSub, Nat.reduceAdd, Int.reduceLE, Int.reduceLT, Int.reduceNeg, Nat.reduceLT, Nat.reduceLeDiff, Int.reduceEq, decide_eq_true_eq, and_true, true_and, Bool.false_eq_true, and_self, items, rq_slcT, e1]
  refine sum_comp (by omega) (Nat.lt_succ_self 1) ?_
  rw [newL_t (ilim (by simp only [List.length_map]; omega)), t_sum, e3]
  simp only [PI.w_loc, PI.w_cst, PI.w_gfn, PI.w_bin, PI.w_neg, PI.w_inv, PI.w_not, PI.w_cmp, PI.w_chn, PI.w_and, PI.w_or, PI.w_iteE, PI.w_tup, PI.w_lst, PI.w_idx, PI.w_slL, PI.w_slU, PI.w_slLU, PI.w_rev, PI.w_call, PI.w_bi, PI.w_me, PI.w_comp, PI.w_nilS, PI.w_consS, PI.w_nilT, PI.w_consT, PI.w_iex, PI.w_irng, PI.w_ienm, PI.w_izp, PI.w_irv, PI.v_nil, PI.v_cons, PI.v_pass, PI.v_brk, PI.v_cnt, PI.v_never, PI.v_set, PI.v_asg, PI.asg_tp, PI.v_aug, PI.v_seti, PI.v_ex, PI.v_ret, PI.v_retN, PI.v_ite, PI.v_whl, PI.v_for, PI.body_eq, PI.rq_ret, PI.rq_opt, PI.rq_ok, PI.rsq_ok, PI.rq_truM, PI.q_nx, PI.q_rt, PI.q_bk, PI.q_ct, List.getElem?_cons_zero, List.getElem?_cons_succ, List.set_cons_zero, List.set_cons_succ, Option.join_some, wipeE, PI.b_add, PI.b_sub, PI.b_mul, PI.b_fdiv, PI.b_mod, PI.b_pow, PI.a_add, PI.a_sub, PI.a_mul, PI.u_int, PI.c_lt, PI.c_le, PI.c_gt, PI.c_ge, PI.c_is, PI.c_isn, PI.tru_bl, PI.tru_int, PI.t_abs, t_len_t, t_len_l, PI.t_int, PI.t_intb, PI.t_isi, PI.t_max2, PI.t_min2, List.map_cons, List.map_nil, List.append_nil, List.nil_append, List.cons_append, List.length_cons, List.length_nil, List.replicate_zero, List.replicate_succ, if_true, if_false, Bool.true_and, Bool.and_true, Bool.not_true, Bool.not_false, decide_true, decide_false, asgs, PI.q_if, reduceIte, reduceCtorEq, id_eq, Option.map_some, PI.rq_ite, toInt, Nat.reduceSub, Nat.reduceAdd, Int.reduceLE, Int.reduceLT, Int.reduceNeg, Nat.reduceLT, Nat.reduceLeDiff, Int.reduceEq, decide_eq_true_eq, and_true, true_and, Bool.false_eq_true, and_self]
theorem c_outward {r : List Int} (h : LP r) : CK F (k + 5) 9 [] [.tup (r.map D.int)] S = .ok (.tup [.int (wh r + 1), .int (wh r)]) S := by
  show runFn (CK F (k + 4)) F f9 [.tup (r.map D.int)] S = _
  refine ok_of ?_
  rw [rq_fn]
  unfold f9 b9
  simp only [PI.w_loc, PI.w_cst, PI.w_gfn, PI.w_bin, PI.w_neg, PI.w_inv, PI.w_not, PI.w_cmp, PI.w_chn, PI.w_and, PI.w_or, PI.w_iteE, PI.w_tup, PI.w_lst, PI.w_idx, PI.w_slL, PI.w_slU, PI.w_slLU, PI.w_rev, PI.w_call, PI.w_bi, PI.w_me, PI.w_comp, PI.w_nilS, PI.w_consS, PI.w_nilT, PI.w_consT, PI.w_iex, PI.w_irng, PI.w_ienm, PI.w_izp, PI.w_irv, PI.v_nil, PI.v_cons, PI.v_pass, PI.v_brk, PI.v_cnt, PI.v_never, PI.v_set, PI.v_asg, PI.asg_tp, PI.v_aug, PI.v_seti, PI.v_ex, PI.v_ret, PI.v_retN, PI.v_ite, PI.v_whl, PI.v_for, PI.body_eq, PI.rq_ret, PI.rq_opt, PI.rq_ok, PI.rsq_ok, PI.rq_truM, PI.q_nx, PI.q_rt, PI.q_bk, PI.q_ct, List.getElem?_cons_zero, List.getElem?_cons_succ, List.set_cons_zero, List.set_cons_succ, Option.join_some, wipeE, PI.b_add, PI.b_sub, PI.b_mul, PI.b_fdiv, PI.b_mod, PI.b_pow, PI.a_add, PI.a_sub, PI.a_mul, PI.u_int, PI.c_lt, PI.c_le, PI.c_gt, PI.c_ge, PI.c_is, PI.c_isn, PI.tru_bl, PI.tru_int, PI.t_abs, t_len_t, t_len_l, PI.t_int, PI.t_intb, PI.t_isi, PI.t_max2, PI.t_min2, List.map_cons, List.map_nil, List.append_nil, List.nil_append, List.cons_append, List.length_cons, List.length_nil, List.replicate_zero, List.replicate_succ, if_true, if_false, Bool.true_and, Bool.and_true, Bool.not_true, Bool.not_false, decide_true, decide_false, asgs, PI.q_if, reduceIte, reduceCtorEq, id_eq, Option.map_some, PI.rq_ite, toInt, Nat.reduceSub, Nat.reduceAdd, Int.reduceLE, Int.reduceLT, Int.reduceNeg, Nat.reduceLT, Nat.reduceLeDiff, Int.reduceEq, decide_eq_true_eq, and_true, true_and, Bool.false_eq_true, and_self, c_need h, c_sumof h, lim_val]
theorem c_outwardK {r : List Int} (h : LP r) : CK F (k + 5) 9 [0] [.tup (r.map D.int)] S = .ok (.tup [.int (wh r + 1), .int (wh r)]) S := c_outward (k := k) h
theorem c_value {r : List Int} {x : Int} (h : LP r) (hx : x.natAbs < 2 ^ 110) : CK F (k + 5) 8 [] [.tup (r.map D.int), .int x] S = .ok (.int (hn r x)) S := by
  show runFn (CK F (k + 4)) F f8 [.tup (r.map D.int), .int x] S = _
  refine ok_of ?_
  rw [rq_fn]
  unfold f8 b8
  have hb : ab x < 2 ^ 110 := by show iabs x < 2 ^ 110; unfold iabs; split <;> omega
  have hn : ∀ l : Int, 2 ^ 110 ≤ l → CK F (k + 4) 7 [] [.int x, .int l] S = .ok (.int x) S := fun l hl => c_needs (k := k + 1) (by omega)
  simp only [PI.w_loc, PI.w_cst, PI.w_gfn, PI.w_bin, PI.w_neg, PI.w_inv, PI.w_not, PI.w_cmp, PI.w_chn, PI.w_and, PI.w_or, PI.w_iteE, PI.w_tup, PI.w_lst, PI.w_idx, PI.w_slL, PI.w_slU, PI.w_slLU, PI.w_rev, PI.w_call, PI.w_bi, PI.w_me, PI.w_comp, PI.w_nilS, PI.w_consS, PI.w_nilT, PI.w_consT, PI.w_iex, PI.w_irng, PI.w_ienm, PI.w_izp, PI.w_irv, PI.v_nil, PI.v_cons, PI.v_pass, PI.v_brk, PI.v_cnt, PI.v_never, PI.v_set, PI.v_asg, PI.asg_tp, PI.v_aug, PI.v_seti, PI.v_ex, PI.v_ret, PI.v_retN, PI.v_ite, PI.v_whl, PI.v_for, PI.body_eq, PI.rq_ret, PI.rq_opt, PI.rq_ok, PI.rsq_ok, PI.rq_truM, PI.q_nx, PI.q_rt, PI.q_bk, PI.q_ct, List.getElem?_cons_zero, List.getElem?_cons_succ, List.set_cons_zero, List.set_cons_succ, Option.join_some, wipeE, PI.b_add, PI.b_sub, PI.b_mul, PI.b_fdiv, PI.b_mod, PI.b_pow, PI.a_add, PI.a_sub, PI.a_mul, PI.u_int, PI.c_lt, PI.c_le, PI.c_gt, PI.c_ge, PI.c_is, PI.c_isn, PI.tru_bl, PI.tru_int, PI.t_abs, t_len_t, t_len_l, PI.t_int, PI.t_intb, PI.t_isi, PI.t_max2, PI.t_min2, List.map_cons, List.map_nil, List.append_nil, List.nil_append, List.cons_append, List.length_cons, List.length_nil, List.replicate_zero, List.replicate_succ, if_true, if_false, Bool.true_and, Bool.and_true, Bool.not_true, Bool.not_false, decide_true, decide_false, asgs, PI.q_if, reduceIte, reduceCtorEq, id_eq, Option.map_some, PI.rq_ite, toInt, Nat.reduceSub, Nat.reduceAdd, Int.reduceLE, Int.reduceLT, Int.reduceNeg, Nat.reduceLT, Nat.reduceLeDiff, Int.reduceEq, decide_eq_true_eq, and_true, true_and, Bool.false_eq_true, and_self, c_need h, c_worth h hx]
  rw [hn _ (by decide +kernel)]
  simp only [PI.w_loc, PI.w_cst, PI.w_gfn, PI.w_bin, PI.w_neg, PI.w_inv, PI.w_not, PI.w_cmp, PI.w_chn, PI.w_and, PI.w_or, PI.w_iteE, PI.w_tup, PI.w_lst, PI.w_idx, PI.w_slL, PI.w_slU, PI.w_slLU, PI.w_rev, PI.w_call, PI.w_bi, PI.w_me, PI.w_comp, PI.w_nilS, PI.w_consS, PI.w_nilT, PI.w_consT, PI.w_iex, PI.w_irng, PI.w_ienm, PI.w_izp, PI.w_irv, PI.v_nil, PI.v_cons, PI.v_pass, PI.v_brk, PI.v_cnt, PI.v_never, PI.v_set, PI.v_asg, PI.asg_tp, PI.v_aug, PI.v_seti, PI.v_ex, PI.v_ret, PI.v_retN, PI.v_ite, PI.v_whl, PI.v_for, PI.body_eq, PI.rq_ret, PI.rq_opt, PI.rq_ok, PI.rsq_ok, PI.rq_truM, PI.q_nx, PI.q_rt, PI.q_bk, PI.q_ct, List.getElem?_cons_zero, List.getElem?_cons_succ, List.set_cons_zero, List.set_cons_succ, Option.join_some, wipeE, PI.b_add, PI.b_sub, PI.b_mul, PI.b_fdiv, PI.b_mod, PI.b_pow, PI.a_add, PI.a_sub, PI.a_mul, PI.u_int, PI.c_lt, PI.c_le, PI.c_gt, PI.c_ge, PI.c_is, PI.c_isn, PI.tru_bl, PI.tru_int, PI.t_abs, t_len_t, t_len_l, PI.t_int, PI.t_intb, PI.t_isi, PI.t_max2, PI.t_min2, List.map_cons, List.map_nil, List.append_nil, List.nil_append, List.cons_append, List.length_cons, List.length_nil, List.replicate_zero, List.replicate_succ, if_true, if_false, Bool.true_and, Bool.and_true, Bool.not_true, Bool.not_false, decide_true, decide_false, asgs, PI.q_if, reduceIte, reduceCtorEq, id_eq, Option.map_some, PI.rq_ite, toInt, Nat.reduceSub, Nat.reduceAdd, Int.reduceLE, Int.reduceLT, Int.reduceNeg, Nat.reduceLT, Nat.reduceLeDiff, Int.reduceEq, decide_eq_true_eq, and_true, true_and, Bool.false_eq_true, and_self, c_need h, c_worth h hx]
end
end Lw

/-! k14: signs, the way out -/
namespace Lw
open PySem PySem.Spec PyProof.Rows L2 PI
section
variable {F k : Nat} {S : Sto}
/-- what signs tells -/
def sgD : List Int → D
  | [_, b] => .tup [.int (0 - if 0 < b then 1 else -1), .int (if 0 < b then 1 else -1)]
  | [_, _, c] => .tup [.int (if 0 < c then 1 else -1), .int (if 0 < c then 1 else -1)]
  | [_, _, _, d] => .tup [.int (0 - if 0 < d then 1 else -1), .int (if 0 < d then 1 else -1)]
  | _ => .non
theorem c_signsof {r : List Int} (h : LP r) : CK F (k + 1) 10 [] [.tup (r.map D.int)] S = .ok (sgD r) S := by
  show runFn (CK F k) F f10 [.tup (r.map D.int)] S = _
  refine ok_of ?_
  rw [rq_fn]
  unfold f10 b10
  rcases h with ⟨a, b, rfl, _⟩ | ⟨a, b, c, rfl, _⟩ | ⟨a, b, c, d, rfl, _⟩
  · have e1 : atI [D.int a, D.int b] (-1) = some (.int b) := at_m1 (xs := [D.int a])
    simp only [PI.w_loc, PI.w_cst, PI.w_gfn, PI.w_bin, PI.w_neg, PI.w_inv, PI.w_not, PI.w_cmp, PI.w_chn, PI.w_and, PI.w_or, PI.w_iteE, PI.w_tup, PI.w_lst, PI.w_idx, PI.w_slL, PI.w_slU, PI.w_slLU, PI.w_rev, PI.w_call, PI.w_bi, PI.w_me, PI.w_comp, PI.w_nilS, PI.w_consS, PI.w_nilT, PI.w_consT, PI.w_iex, PI.w_irng, PI.w_ienm, PI.w_izp, PI.w_irv, PI.v_nil, PI.v_cons, PI.v_pass, PI.v_brk, PI.v_cnt, PI.v_never, PI.v_set, PI.v_asg, PI.asg_tp, PI.v_aug, PI.v_seti, PI.v_ex, PI.v_ret, PI.v_retN, PI.v_ite, PI.v_whl, PI.v_for, PI.body_eq, PI.rq_ret, PI.rq_opt, PI.rq_ok, PI.rsq_ok, PI.rq_truM, PI.q_nx, PI.q_rt, PI.q_bk, PI.q_ct, List.getElem?_cons_zero, List.getElem?_cons_succ, List.set_cons_zero, List.set_cons_succ, Option.join_some, wipeE, PI.b_add, PI.b_sub, PI.b_mul, PI.b_fdiv, PI.b_mod, PI.b_pow, PI.a_add, PI.a_sub, PI.a_mul, PI.u_int, PI.c_lt, PI.c_le, PI.c_gt, PI.c_ge, PI.c_is, PI.c_isn, PI.tru_bl, PI.tru_int, PI.t_abs, t_len_t, t_len_l, PI.t_int, PI.t_intb, PI.t_isi, PI.t_max2, PI.t_min2, List.map_cons, List.map_nil, List.append_nil, List.nil_append, List.cons_append, List.length_cons, List.length_nil, List.replicate_zero, List.replicate_succ, if_true, if_false, Bool.true_and, Bool.and_true, Bool.not_true, Bool.not_false, decide_true, decide_false, asgs, PI.q_if, reduceIte, reduceCtorEq, id_eq, Option.map_some, PI.rq_ite, toInt, Nat.reduceSub, Nat.reduceAdd, Int.reduceLE, Int.reduceLT, Int.reduceNeg, Nat.reduceLT, Nat.reduceLeDiff, Int.reduceEq, decide_eq_true_eq, and_true, true_and, Bool.false_eq_true, and_self, rq_idxT, e1, c_eq, lim_val, sgD]
    split <;> simp_all
  · have e1 : atI [D.int a, D.int b, D.int c] (-1) = some (.int c) := at_m1 (xs := [D.int a, D.int b])
    simp only [PI.w_loc, PI.w_cst, PI.w_gfn, PI.w_bin, PI.w_neg, PI.w_inv, PI.w_not, PI.w_cmp, PI.w_chn, PI.w_and, PI.w_or, PI.w_iteE, PI.w_tup, PI.w_lst, PI.w_idx, PI.w_slL, PI.w_slU, PI.w_slLU, PI.w_rev, PI.w_call, PI.w_bi, PI.w_me, PI.w_comp, PI.w_nilS, PI.w_consS, PI.w_nilT, PI.w_consT, PI.w_iex, PI.w_irng, PI.w_ienm, PI.w_izp, PI.w_irv, PI.v_nil, PI.v_cons, PI.v_pass, PI.v_brk, PI.v_cnt, PI.v_never, PI.v_set, PI.v_asg, PI.asg_tp, PI.v_aug, PI.v_seti, PI.v_ex, PI.v_ret, PI.v_retN, PI.v_ite, PI.v_whl, PI.v_for, PI.body_eq, PI.rq_ret, PI.rq_opt, PI.rq_ok, PI.rsq_ok, PI.rq_truM, PI.q_nx, PI.q_rt, PI.q_bk, PI.q_ct, List.getElem?_cons_zero, List.getElem?_cons_succ, List.set_cons_zero, List.set_cons_succ, Option.join_some, wipeE, PI.b_add, PI.b_sub, PI.b_mul, PI.b_fdiv, PI.b_mod, PI.b_pow, PI.a_add, PI.a_sub, PI.a_mul, PI.u_int, PI.c_lt, PI.c_le, PI.c_gt, PI.c_ge, PI.c_is, PI.c_isn, PI.tru_bl, PI.tru_int, PI.t_abs, t_len_t, t_len_l, PI.t_int, PI.t_intb, PI.t_isi, PI.t_max2, PI.t_min2, List.map_cons, List.map_nil, List.append_nil, List.nil_append, List.cons_append, List.length_cons, List.length_nil, List.replicate_zero, List.replicate_succ, if_true, if_false, Bool.true_and, Bool.and_true, Bool.not_true, Bool.not_false, decide_true, decide_false, asgs, PI.q_if, reduceIte, reduceCtorEq, id_eq, Option.map_some, PI.rq_ite, toInt, Nat.reduceSub, Nat.reduceAdd, Int.reduceLE, Int.reduceLT, Int.reduceNeg, Nat.reduceLT, Nat.reduceLeDiff, Int.reduceEq, decide_eq_true_eq, and_true, true_and, Bool.false_eq_true, and_self, rq_idxT, e1, c_eq, lim_val, sgD]
    split <;> simp_all
  · have e1 : atI [D.int a, D.int b, D.int c, D.int d] (-1) = some (.int d) := at_m1 (xs := [D.int a, D.int b, D.int c])
    simp only [PI.w_loc, PI.w_cst, PI.w_gfn, PI.w_bin, PI.w_neg, PI.w_inv, PI.w_not, PI.w_cmp, PI.w_chn, PI.w_and, PI.w_or, PI.w_iteE, PI.w_tup, PI.w_lst, PI.w_idx, PI.w_slL, PI.w_slU, PI.w_slLU, PI.w_rev, PI.w_call, PI.w_bi, PI.w_me, PI.w_comp, PI.w_nilS, PI.w_consS, PI.w_nilT, PI.w_consT, PI.w_iex, PI.w_irng, PI.w_ienm, PI.w_izp, PI.w_irv, PI.v_nil, PI.v_cons, PI.v_pass, PI.v_brk, PI.v_cnt, PI.v_never, PI.v_set, PI.v_asg, PI.asg_tp, PI.v_aug, PI.v_seti, PI.v_ex, PI.v_ret, PI.v_retN, PI.v_ite, PI.v_whl, PI.v_for, PI.body_eq, PI.rq_ret, PI.rq_opt, PI.rq_ok, PI.rsq_ok, PI.rq_truM, PI.q_nx, PI.q_rt, PI.q_bk, PI.q_ct, List.getElem?_cons_zero, List.getElem?_cons_succ, List.set_cons_zero, List.set_cons_succ, Option.join_some, wipeE, PI.b_add, PI.b_sub, PI.b_mul, PI.b_fdiv, PI.b_mod, PI.b_pow, PI.a_add, PI.a_sub, PI.a_mul, PI.u_int, PI.c_lt, PI.c_le, PI.c_gt, PI.c_ge, PI.c_is, PI.c_isn, PI.tru_bl, PI.tru_int, PI.t_abs, t_len_t, t_len_l, PI.t_int, PI.t_intb, PI.t_isi, PI.t_max2, PI.t_min2, List.map_cons, List.map_nil, List.append_nil, List.nil_append, List.cons_append, List.length_cons, List.length_nil, List.replicate_zero, List.replicate_succ, if_true, if_false, Bool.true_and, Bool.and_true, Bool.not_true, Bool.not_false, decide_true, decide_false, asgs, PI.q_if, reduceIte, reduceCtorEq, id_eq, Option.map_some, PI.rq_ite, toInt, Nat.reduceSub, Nat.reduceAdd, Int.reduceLE, Int.reduceLT, Int.reduceNeg, Nat.reduceLT, Nat.reduceLeDiff, Int.reduceEq, decide_eq_true_eq, and_true, true_and, Bool.false_eq_true, and_self, rq_idxT, e1, c_eq, lim_val, sgD]
    split <;> simp_all
theorem c_signs {r : List Int} (h : LP r) : CK F (k + 5) 11 [] [.tup (r.map D.int)] S = .ok (sgD r) S := by
  show runFn (CK F (k + 4)) F f11 [.tup (r.map D.int)] S = _
  refine ok_of ?_
  rw [rq_fn]
  unfold f11 b11
  simp only [PI.w_loc, PI.w_cst, PI.w_gfn, PI.w_bin, PI.w_neg, PI.w_inv, PI.w_not, PI.w_cmp, PI.w_chn, PI.w_and, PI.w_or, PI.w_iteE, PI.w_tup, PI.w_lst, PI.w_idx, PI.w_slL, PI.w_slU, PI.w_slLU, PI.w_rev, PI.w_call, PI.w_bi, PI.w_me, PI.w_comp, PI.w_nilS, PI.w_consS, PI.w_nilT, PI.w_consT, PI.w_iex, PI.w_irng, PI.w_ienm, PI.w_izp, PI.w_irv, PI.v_nil, PI.v_cons, PI.v_pass, PI.v_brk, PI.v_cnt, PI.v_never, PI.v_set, PI.v_asg, PI.asg_tp, PI.v_aug, PI.v_seti, PI.v_ex, PI.v_ret, PI.v_retN, PI.v_ite, PI.v_whl, PI.v_for, PI.body_eq, PI.rq_ret, PI.rq_opt, PI.rq_ok, PI.rsq_ok, PI.rq_truM, PI.q_nx, PI.q_rt, PI.q_bk, PI.q_ct, List.getElem?_cons_zero, List.getElem?_cons_succ, List.set_cons_zero, List.set_cons_succ, Option.join_some, wipeE, PI.b_add, PI.b_sub, PI.b_mul, PI.b_fdiv, PI.b_mod, PI.b_pow, PI.a_add, PI.a_sub, PI.a_mul, PI.u_int, PI.c_lt, PI.c_le, PI.c_gt, PI.c_ge, PI.c_is, PI.c_isn, PI.tru_bl, PI.tru_int, PI.t_abs, t_len_t, t_len_l, PI.t_int, PI.t_intb, PI.t_isi, PI.t_max2, PI.t_min2, List.map_cons, List.map_nil, List.append_nil, List.nil_append, List.cons_append, List.length_cons, List.length_nil, List.replicate_zero, List.replicate_succ, if_true, if_false, Bool.true_and, Bool.and_true, Bool.not_true, Bool.not_false, decide_true, decide_false, asgs, PI.q_if, reduceIte, reduceCtorEq, id_eq, Option.map_some, PI.rq_ite, toInt, Nat.reduceSub, Nat.reduceAdd, Int.reduceLE, Int.reduceLT, Int.reduceNeg, Nat.reduceLT, Nat.reduceLeDiff, Int.reduceEq, decide_eq_true_eq, and_true, true_and, Bool.false_eq_true, and_self, c_need h, c_signsof h]
theorem c_signsK {r : List Int} (h : LP r) : CK F (k + 5) 11 [0] [.tup (r.map D.int)] S = .ok (sgD r) S := c_signs (k := k) h
/-! the way out -/
def good (r : List Int) (s : Int) : Prop := ab (hn r s) ≤ s ∨ ab (hn r (0 - s)) ≤ s
instance (r : List Int) (s : Int) : Decidable (good r s) := inferInstanceAs (Decidable (_ ∨ _))
def lastG (r : List Int) : Nat → Int
  | 0 => 0
  | n + 1 => if good r ((n : Int) + 1) then (n : Int) + 1 else lastG r n
theorem tm_abs {i : Int} {Q : D → Sto → Prop} : RQ (biop .abs [.int i] S) Q = Q (.int (ab i)) S := rfl
theorem out_loop {r : List Int} (h : LP r) {Q : Fl → PI.Env → Sto → Prop} {C : Cal} (hC : ∀ (x : Int) S, x.natAbs < 2 ^ 110 → C 3 [] [.tup (r.map D.int), .int x] S = .ok (.int (hn r x)) S) : ∀ (n m : Nat), n < m → n < 2 ^ 100 → Q .nx [some (.tup (r.map D.int)), some (.int (lastG r n))] S →
    RSQ (whlN (cndF C (.and (.cmp .gt (.loc 1) (.cst (.int 0))) (.and (.cmp .gt (.bi .abs (.cons (.call 3 (.cons (.loc 0) (.cons (.loc 1) .nil)) .nil []) .nil)) (.loc 1)) (.cmp .gt (.bi .abs (.cons (.call 3 (.cons (.loc 0) (.cons (.bin .sub (.cst (.int 0)) (.loc 1)) .nil)) .nil []) .nil)) (.loc 1)))))
      (bodyF C F (.cons (.aug 1 .sub (.cst (.int 1))) .nil)) m [some (.tup (r.map D.int)), some (.int (n : Int))] S) Q
  | 0, m + 1, _, _, hq => by
    unfold whlN
    rw [rsq_lift, cnd_eq]
    simp only [PI.w_loc, PI.w_cst, PI.w_gfn, PI.w_bin, PI.w_neg, PI.w_inv, PI.w_not, PI.w_cmp, PI.w_chn, PI.w_and, PI.w_or, PI.w_iteE, PI.w_tup, PI.w_lst, PI.w_idx, PI.w_slL, PI.w_slU, PI.w_slLU, PI.w_rev, PI.w_call, PI.w_bi, PI.w_me, PI.w_comp, PI.w_nilS, PI.w_consS, PI.w_nilT, PI.w_consT, PI.w_iex, PI.w_irng, PI.w_ienm, PI.w_izp, PI.w_irv, PI.v_nil, PI.v_cons, PI.v_pass, PI.v_brk, PI.v_cnt, PI.v_never, PI.v_set, PI.v_asg, PI.asg_tp, PI.v_aug, PI.v_seti, PI.v_ex, PI.v_ret, PI.v_retN, PI.v_ite, PI.v_whl, PI.v_for, PI.body_eq, PI.rq_ret, PI.rq_opt, PI.rq_ok, PI.rsq_ok, PI.rq_truM, PI.q_nx, PI.q_rt, PI.q_bk, PI.q_ct, List.getElem?_cons_zero, List.getElem?_cons_succ, List.set_cons_zero, List.set_cons_succ, Option.join_some, wipeE, PI.b_add, PI.b_sub, PI.b_mul, PI.b_fdiv, PI.b_mod, PI.b_pow, PI.a_add, PI.a_sub, PI.a_mul, PI.u_int, PI.c_lt, PI.c_le, PI.c_gt, PI.c_ge, PI.c_is, PI.c_isn, PI.tru_bl, PI.tru_int, PI.t_abs, t_len_t, t_len_l, PI.t_int, PI.t_intb, PI.t_isi, PI.t_max2, PI.t_min2, List.map_cons, List.map_nil, List.append_nil, List.nil_append, List.cons_append, List.length_cons, List.length_nil, List.replicate_zero, List.replicate_succ, if_true, if_false, Bool.true_and, Bool.and_true, Bool.not_true, Bool.not_false, decide_true, decide_false, asgs, PI.q_if, reduceIte, reduceCtorEq, id_eq, Option.map_some, PI.rq_ite, toInt, Nat.reduceSub, Nat.reduceAdd, Int.reduceLE, Int.reduceLT, Int.reduceNeg, Nat.reduceLT, Nat.reduceLeDiff, Int.reduceEq, decide_eq_true_eq, and_true, true_and, Bool.false_eq_true, and_self, Int.natCast_zero, Int.lt_irrefl]
    exact hq
  | n + 1, m + 1, hm, hs, hq => by
    unfold whlN
    rw [rsq_lift, cnd_eq]
    have e1 : C 3 [] [.tup (r.map D.int), .int ((n + 1 : Nat) : Int)] S = .ok (.int (hn r ((n + 1 : Nat) : Int))) S := hC _ S (by omega)
    have e2 : C 3 [] [.tup (r.map D.int), .int (0 - ((n + 1 : Nat) : Int))] S = .ok (.int (hn r (0 - ((n + 1 : Nat) : Int)))) S := hC _ S (by omega)
    have e3 : (0 : Int) < ((n + 1 : Nat) : Int) := by omega
    simp only [PI.w_loc, PI.w_cst, PI.w_gfn, PI.w_bin, PI.w_neg, PI.w_inv, PI.w_not, PI.w_cmp, PI.w_chn, PI.w_and, PI.w_or, PI.w_iteE, PI.w_tup, PI.w_lst, PI.w_idx, PI.w_slL, PI.w_slU, PI.w_slLU, PI.w_rev, PI.w_call, PI.w_bi, PI.w_me, PI.w_comp, PI.w_nilS, PI.w_consS, PI.w_nilT, PI.w_consT, PI.w_iex, PI.w_irng, PI.w_ienm, PI.w_izp, PI.w_irv, PI.v_nil, PI.v_cons, PI.v_pass, PI.v_brk, PI.v_cnt, PI.v_never, PI.v_set, PI.v_asg, PI.asg_tp, PI.v_aug, PI.v_seti, PI.v_ex, PI.v_ret, PI.v_retN, PI.v_ite, PI.v_whl, PI.v_for, PI.body_eq, PI.rq_ret, PI.rq_opt, PI.rq_ok, PI.rsq_ok, PI.rq_truM, PI.q_nx, PI.q_rt, PI.q_bk, PI.q_ct, List.getElem?_cons_zero, List.getElem?_cons_succ, List.set_cons_zero, List.set_cons_succ, Option.join_some, wipeE, PI.b_add, PI.b_sub, PI.b_mul, PI.b_fdiv, PI.b_mod, PI.b_pow, PI.a_add, PI.a_sub, PI.a_mul, PI.u_int, PI.c_lt, PI.c_le, PI.c_gt, PI.c_ge, PI.c_is, PI.c_isn, PI.tru_bl, PI.tru_int, PI.t_abs, t_len_t, t_len_l, PI.t_int, PI.t_intb, PI.t_isi, PI.t_max2, PI.t_min2, List.map_cons, List.map_nil, List.append_nil, List.nil_append, List.cons_append, List.length_cons, List.length_nil, List.replicate_zero, List.replicate_succ, if_true, if_false, Bool.true_and, Bool.and_true, Bool.not_true, Bool.not_false, decide_true, decide_false, asgs, PI.q_if, reduceIte, reduceCtorEq, id_eq, Option.map_some, PI.rq_ite, toInt, Nat.reduceSub, Nat.reduceAdd, Int.reduceLE, Int.reduceLT, Int.reduceNeg, Nat.reduceLT, Nat.reduceLeDiff, Int.reduceEq, decide_eq_true_eq, and_true, true_and, Bool.false_eq_true, and_self, e1, e2, e3, decide_eq_true e3]
    have ec : ((n + 1 : Nat) : Int) = (n : Int) + 1 := by omega
    have hb : bodyF C F (.cons (.aug 1 .sub (.cst (.int 1))) .nil) [some (.tup (r.map D.int)), some (.int ((n + 1 : Nat) : Int))] S = .ok .nx [some (.tup (r.map D.int)), some (.int (n : Int))] S := by
      have : bodyF C F (.cons (.aug 1 .sub (.cst (.int 1))) .nil) [some (.tup (r.map D.int)), some (.int ((n + 1 : Nat) : Int))] S = .ok .nx [some (.tup (r.map D.int)), some (.int (((n + 1 : Nat) : Int) - 1))] S := rfl
      rw [this]
      congr
      omega
    rw [hb]
    have hl : lastG r (n + 1) = if good r ((n + 1 : Nat) : Int) then ((n + 1 : Nat) : Int) else lastG r n := rfl
    have ih := out_loop (Q := Q) h hC n m (by omega) (by omega)
    by_cases hg : good r ((n + 1 : Nat) : Int)
    · rw [hl, if_pos hg] at hq
      by_cases g1 : ab (hn r ((n + 1 : Nat) : Int)) ≤ ((n + 1 : Nat) : Int)
      · simp only [Int.not_lt.mpr g1, if_false]
        exact hq
      · have g2 : ab (hn r (0 - ((n + 1 : Nat) : Int))) ≤ ((n + 1 : Nat) : Int) := hg.resolve_left g1
        simp only [Int.not_le.mp g1, Int.not_lt.mpr g2, if_true, if_false]
        exact hq
    · rw [hl, if_neg hg] at hq
      have g1 : ¬ ab (hn r ((n + 1 : Nat) : Int)) ≤ ((n + 1 : Nat) : Int) := fun h => hg (.inl h)
      have g2 : ¬ ab (hn r (0 - ((n + 1 : Nat) : Int))) ≤ ((n + 1 : Nat) : Int) := fun h => hg (.inr h)
      simp only [Int.not_le.mp g1, Int.not_le.mp g2, if_true]
      exact ih hq
theorem ab_nn (x : Int) : 0 ≤ iabs x := by unfold iabs; split <;> omega
theorem ab_c {x : Int} (h : okc x) : iabs x ≤ 400 := by unfold iabs; have := h.1; have := h.2; split <;> omega
theorem wh_bd {r : List Int} (h : LP r) : 0 ≤ wh r ∧ wh r ≤ 1200 := by
  rcases h with ⟨a, b, rfl, ha, _⟩ | ⟨a, b, c, rfl, ha, hb, _⟩ | ⟨a, b, c, d, rfl, ha, hb, hc, _⟩
  · exact ⟨ab_nn a, Int.le_trans (ab_c ha) (by decide)⟩
  · have := ab_nn a; have := ab_nn b; have := ab_c ha; have := ab_c hb
    constructor <;> (simp only [wh, ab]; omega)
  · have := ab_nn a; have := ab_nn b; have := ab_nn c; have := ab_c ha; have := ab_c hb; have := ab_c hc
    constructor <;> (simp only [wh, ab]; omega)
theorem c_out {r : List Int} (h : LP r) (hF : 5000 ≤ F) : CK F (k + 6) 12 [] [.tup (r.map D.int)] S = .ok (.int (lastG r ((wh r).toNat + 1))) S := by
  show runFn (CK F (k + 5)) F f12 [.tup (r.map D.int)] S = _
  refine ok_of ?_
  rw [rq_fn]
  unfold f12 b12
  obtain ⟨w1, w2⟩ := wh_bd h
  have e : wh r + 1 = (((wh r).toNat + 1 : Nat) : Int) := by omega
  simp only [PI.w_loc, PI.w_cst, PI.w_gfn, PI.w_bin, PI.w_neg, PI.w_inv, PI.w_not, PI.w_cmp, PI.w_chn, PI.w_and, PI.w_or, PI.w_iteE, PI.w_tup, PI.w_lst, PI.w_idx, PI.w_slL, PI.w_slU, PI.w_slLU, PI.w_rev, PI.w_call, PI.w_bi, PI.w_me, PI.w_comp, PI.w_nilS, PI.w_consS, PI.w_nilT, PI.w_consT, PI.w_iex, PI.w_irng, PI.w_ienm, PI.w_izp, PI.w_irv, PI.v_nil, PI.v_cons, PI.v_pass, PI.v_brk, PI.v_cnt, PI.v_never, PI.v_set, PI.v_asg, PI.asg_tp, PI.v_aug, PI.v_seti, PI.v_ex, PI.v_ret, PI.v_retN, PI.v_ite, PI.v_whl, PI.v_for, PI.body_eq, PI.rq_ret, PI.rq_opt, PI.rq_ok, PI.rsq_ok, PI.rq_truM, PI.q_nx, PI.q_rt, PI.q_bk, PI.q_ct, List.getElem?_cons_zero, List.getElem?_cons_succ, List.set_cons_zero, List.set_cons_succ, Option.join_some, wipeE, PI.b_add, PI.b_sub, PI.b_mul, PI.b_fdiv, PI.b_mod, PI.b_pow, PI.a_add, PI.a_sub, PI.a_mul, PI.u_int, PI.c_lt, PI.c_le, PI.c_gt, PI.c_ge, PI.c_is, PI.c_isn, PI.tru_bl, PI.tru_int, PI.t_abs, t_len_t, t_len_l, PI.t_int, PI.t_intb, PI.t_isi, PI.t_max2, PI.t_min2, List.map_cons, List.map_nil, List.append_nil, List.nil_append, List.cons_append, List.length_cons, List.length_nil, List.replicate_zero, List.replicate_succ, if_true, if_false, Bool.true_and, Bool.and_true, Bool.not_true, Bool.not_false, decide_true, decide_false, asgs, PI.q_if, reduceIte, reduceCtorEq, id_eq, Option.map_some, PI.rq_ite, toInt, Nat.reduceSub, Nat.reduceAdd, Int.reduceLE, Int.reduceLT, Int.reduceNeg, Nat.reduceLT, Nat.reduceLeDiff, Int.reduceEq, decide_eq_true_eq, and_true, true_and, Bool.false_eq_true, and_self, c_outward h, rq_idxT, at_0]
  rw [e]
  refine out_loop h (fun x S hx => c_worth (k := k + 4) h hx) _ F (by omega) ?_ (by simp only [PI.w_loc, PI.w_cst, PI.w_gfn, PI.w_bin, PI.w_neg, PI.w_inv, PI.w_not, PI.w_cmp, PI.w_chn, PI.w_and, PI.w_or, PI.w_iteE, PI.w_tup, PI.w_lst, PI.w_idx, PI.w_slL, PI.w_slU, PI.w_slLU, PI.w_rev, PI.w_call, PI.w_bi, PI.w_me, PI.w_comp, PI.w_nilS, PI.w_consS, PI.w_nilT, PI.w_consT, PI.w_iex, PI.w_irng, PI.w_ienm, PI.w_izp, PI.w_irv, PI.v_nil, PI.v_cons, PI.v_pass, PI.v_brk, PI.v_cnt, PI.v_never, PI.v_set, PI.v_asg, PI.asg_tp, PI.v_aug, PI.v_seti, PI.v_ex, PI.v_ret, PI.v_retN, PI.v_ite, PI.v_whl, PI.v_for, PI.body_eq, PI.rq_ret, PI.rq_opt, PI.rq_ok, PI.rsq_ok, PI.rq_truM, PI.q_nx, PI.q_rt, PI.q_bk, PI.q_ct, List.getElem?_cons_zero, List.getElem?_cons_succ, List.set_cons_zero, List.set_cons_succ, Option.join_some, wipeE, PI.b_add, PI.b_sub, PI.b_mul, PI.b_fdiv, PI.b_mod, PI.b_pow, PI.a_add, PI.a_sub, PI.a_mul, PI.u_int, PI.c_lt, PI.c_le, PI.c_gt, PI.c_ge, PI.c_is, PI.c_isn, PI.tru_bl, PI.tru_int, PI.t_abs, t_len_t, t_len_l, PI.t_int, PI.t_intb, PI.t_isi, PI.t_max2, PI.t_min2, List.map_cons, List.map_nil, List.append_nil, List.nil_append, List.cons_append, List.length_cons, List.length_nil, List.replicate_zero, List.replicate_succ, if_true, if_false, Bool.true_and, Bool.and_true, Bool.not_true, Bool.not_false, decide_true, decide_false, asgs, PI.q_if, reduceIte, reduceCtorEq, id_eq, Option.map_some, PI.rq_ite, toInt, Nat.reduceSub, Nat.reduceAdd, Int.reduceLE, Int.reduceLT, Int.reduceNeg, Nat.reduceLT, Nat.reduceLeDiff, Int.reduceEq, decide_eq_true_eq, and_true, true_and, Bool.false_eq_true, and_self])
  exact Nat.lt_of_lt_of_le (show (wh r).toNat + 1 < 2000 by omega) (by decide)
theorem c_outK {r : List Int} (h : LP r) (hF : 5000 ≤ F) : CK F (k + 6) 12 [0] [.tup (r.map D.int)] S = .ok (.int (lastG r ((wh r).toNat + 1))) S := c_out (k := k) h hF
theorem nab {x : Int} (h : x.natAbs < 10000) : x.natAbs < 2 ^ 110 := Nat.lt_of_lt_of_le h (by decide +kernel)
theorem rng_1 {n : Nat} (hn : n ≤ 2000) : rng [.int 1, .int ((n : Int) + 1)] = some (rngL 1 n) := by
  have h1 : ((n : Int) + 1 - 1).toNat = n := by omega
  have h2 : (-4611686018427387904 : Int) ≤ 1 ∧ (1 : Int) < 4611686018427387904 ∧ (-4611686018427387904 : Int) ≤ (n : Int) + 1 ∧ (n : Int) + 1 < 4611686018427387904 := by omega
  have e62 : (2 : Int) ^ 62 = 4611686018427387904 := by decide +kernel
  unfold rng
  dsimp only
  rw [e62, if_pos h2, h1]
end
end Lw

namespace Lw
open PySem PySem.Spec PyProof.Rows L2 PI
section
variable {F k : Nat} {S : Sto}
theorem rq_rng {ds xs : List D} {Q : List D → Sto → Prop} (h : rng ds = some xs) : RQ (M.opt (rng ds) S) Q = Q xs S := by
  rw [h]
  rfl
theorem c_lout {r : List Int} (h : LP r) {n : Nat} (hn : n ≤ 2000) : CK F (k + 2) 20 [] [.tup (r.map D.int), .int (n : Int)] S = .ok (.int (lastG r n)) S := by
  show runFn (CK F (k + 1)) F f20 [.tup (r.map D.int), .int (n : Int)] S = _
  refine ok_of ?_
  rw [rq_fn]
  unfold f20 b20
  have e : rng [.int 1, .int ((n : Int) + 1)] = some (rngL 1 n) := rng_1 hn
  simp only [PI.w_loc, PI.w_cst, PI.w_gfn, PI.w_bin, PI.w_neg, PI.w_inv, PI.w_not, PI.w_cmp, PI.w_chn, PI.w_and, PI.w_or, PI.w_iteE, PI.w_tup, PI.w_lst, PI.w_idx, PI.w_slL, PI.w_slU, PI.w_slLU, PI.w_rev, PI.w_call, PI.w_bi, PI.w_me, PI.w_comp, PI.w_nilS, PI.w_consS, PI.w_nilT, PI.w_consT, PI.w_iex, PI.w_irng, PI.w_ienm, PI.w_izp, PI.w_irv, PI.v_nil, PI.v_cons, PI.v_pass, PI.v_brk, PI.v_cnt, PI.v_never, PI.v_set, PI.v_asg, PI.asg_tp, PI.v_aug, PI.v_seti, PI.v_ex, PI.v_ret, PI.v_retN, PI.v_ite, PI.v_whl, PI.v_for, PI.body_eq, PI.rq_ret, PI.rq_opt, PI.rq_ok, PI.rsq_ok, PI.rq_truM, PI.q_nx, PI.q_rt, PI.q_bk, PI.q_ct, List.getElem?_cons_zero, List.getElem?_cons_succ, List.set_cons_zero, List.set_cons_succ, Option.join_some, wipeE, PI.b_add, PI.b_sub, PI.b_mul, PI.b_fdiv, PI.b_mod, PI.b_pow, PI.a_add, PI.a_sub, PI.a_mul, PI.u_int, PI.c_lt, PI.c_le, PI.c_gt, PI.c_ge, PI.c_is, PI.c_isn, PI.tru_bl, PI.tru_int, PI.t_abs, t_len_t, t_len_l, PI.t_int, PI.t_intb, PI.t_isi, PI.t_max2, PI.t_min2, List.map_cons, List.map_nil, List.append_nil, List.nil_append, List.cons_append, List.length_cons, List.length_nil, List.replicate_zero, List.replicate_succ, if_true, if_false, Bool.true_and, Bool.and_true, Bool.not_true, Bool.not_false, decide_true, decide_false, asgs, PI.q_if, reduceIte, reduceCtorEq, id_eq, Option.map_some, PI.rq_ite, toInt, Nat.reduceSub, Nat.reduceAdd, Int.reduceLE, Int.reduceLT, Int.reduceNeg, Nat.reduceLT, Nat.reduceLeDiff, Int.reduceEq, decide_eq_true_eq, and_true, true_and, Bool.false_eq_true, and_self, rq_rng e]
  refine rsq_for (fun i ρ S' => S' = S ∧ ∃ o, ρ = [some (.tup (r.map D.int)), some (.int (n : Int)), some (.int (lastG r i)), o]) ⟨rfl, none, rfl⟩ ?_ ?_
  · rintro i d ρ S' hd ⟨rfl, o, rfl⟩
    obtain ⟨hi, rfl⟩ := rngL_get hd
    refine ⟨_, rfl, ?_⟩
    have e1 : CK F (k + 1) 17 [] [.tup (r.map D.int), .int (1 + (i : Int))] S' = .ok (.int (Lw.hn r (1 + (i : Int)))) S' := c_lworth h (nab (by omega))
    have e2 : CK F (k + 1) 17 [] [.tup (r.map D.int), .int (0 - (1 + (i : Int)))] S' = .ok (.int (Lw.hn r (0 - (1 + (i : Int))))) S' := c_lworth h (nab (by omega))
    have hl : lastG r (i + 1) = if good r (1 + (i : Int)) then 1 + (i : Int) else lastG r i := by
      rw [Int.add_comm]
      rfl
    simp only [PI.w_loc, PI.w_cst, PI.w_gfn, PI.w_bin, PI.w_neg, PI.w_inv, PI.w_not, PI.w_cmp, PI.w_chn, PI.w_and, PI.w_or, PI.w_iteE, PI.w_tup, PI.w_lst, PI.w_idx, PI.w_slL, PI.w_slU, PI.w_slLU, PI.w_rev, PI.w_call, PI.w_bi, PI.w_me, PI.w_comp, PI.w_nilS, PI.w_consS, PI.w_nilT, PI.w_consT, PI.w_iex, PI.w_irng, PI.w_ienm, PI.w_izp, PI.w_irv, PI.v_nil, PI.v_cons, PI.v_pass, PI.v_brk, PI.v_cnt, PI.v_never, PI.v_set, PI.v_asg, PI.asg_tp, PI.v_aug, PI.v_seti, PI.v_ex, PI.v_ret, PI.v_retN, PI.v_ite, PI.v_whl, PI.v_for, PI.body_eq, PI.rq_ret, PI.rq_opt, PI.rq_ok, PI.rsq_ok, PI.rq_truM, PI.q_nx, PI.q_rt, PI.q_bk, PI.q_ct, List.getElem?_cons_zero, List.getElem?_cons_succ, List.set_cons_zero, List.set_cons_succ, Option.join_some, wipeE, PI.b_add, PI.b_sub, PI.b_mul, PI.b_fdiv, PI.b_mod, PI.b_pow, PI.a_add, PI.a_sub, PI.a_mul, PI.u_int, PI.c_lt, PI.c_le, PI.c_gt, PI.c_ge, PI.c_is, PI.c_isn, PI.tru_bl, PI.tru_int, PI.t_abs, t_len_t, t_len_l, PI.t_int, PI.t_intb, PI.t_isi, PI.t_max2, PI.t_min2, List.map_cons, List.map_nil, List.append_nil, List.nil_append, List.cons_append, List.length_cons, List.length_nil, List.replicate_zero, List.replicate_succ, if_true, if_false, Bool.true_and, Bool.and_true, Bool.not_true, Bool.not_false, decide_true, decide_false, asgs, PI.q_if, reduceIte, reduceCtorEq, id_eq, Option.map_some, PI.rq_ite, toInt, Nat.reduceSub, Nat.reduceAdd, Int.reduceLE, Int.reduceLT, Int.reduceNeg, Nat.reduceLT, Nat.reduceLeDiff, Int.reduceEq, decide_eq_true_eq, and_true, true_and, Bool.false_eq_true, and_self, e1, e2]
    by_cases g1 : ab (Lw.hn r (1 + (i : Int))) ≤ 1 + (i : Int)
    · simp only [g1, if_true]
      exact ⟨_, by rw [hl, if_pos (show good r (1 + (i : Int)) from Or.inl g1)]⟩
    · simp only [g1, if_false]
      by_cases g2 : ab (Lw.hn r (0 - (1 + (i : Int)))) ≤ 1 + (i : Int)
      · simp only [g2, if_true]
        exact ⟨_, by rw [hl, if_pos (show good r (1 + (i : Int)) from Or.inr g2)]⟩
      · simp only [g2, if_false]
        exact ⟨_, by rw [hl, if_neg (show ¬ good r (1 + (i : Int)) from fun h => Or.elim h g1 g2)]⟩
  · rintro ρ S' ⟨rfl, o, rfl⟩
    have : (rngL 1 n).length = n := by unfold rngL; rw [List.length_map, List.length_range]
    rw [this]
    simp only [PI.w_loc, PI.w_cst, PI.w_gfn, PI.w_bin, PI.w_neg, PI.w_inv, PI.w_not, PI.w_cmp, PI.w_chn, PI.w_and, PI.w_or, PI.w_iteE, PI.w_tup, PI.w_lst, PI.w_idx, PI.w_slL, PI.w_slU, PI.w_slLU, PI.w_rev, PI.w_call, PI.w_bi, PI.w_me, PI.w_comp, PI.w_nilS, PI.w_consS, PI.w_nilT, PI.w_consT, PI.w_iex, PI.w_irng, PI.w_ienm, PI.w_izp, PI.w_irv, PI.v_nil, PI.v_cons, PI.v_pass, PI.v_brk, PI.v_cnt, PI.v_never, PI.v_set, PI.v_asg, PI.asg_tp, PI.v_aug, PI.v_seti, PI.v_ex, PI.v_ret, PI.v_retN, PI.v_ite, PI.v_whl, PI.v_for, PI.body_eq, PI.rq_ret, PI.rq_opt, PI.rq_ok, PI.rsq_ok, PI.rq_truM, PI.q_nx, PI.q_rt, PI.q_bk, PI.q_ct, List.getElem?_cons_zero, List.getElem?_cons_succ, List.set_cons_zero, List.set_cons_succ, Option.join_some, wipeE, PI.b_add, PI.b_sub, PI.b_mul, PI.b_fdiv, PI.b_mod, PI.b_pow, PI.a_add, PI.a_sub, PI.a_mul, PI.u_int, PI.c_lt, PI.c_le, PI.c_gt, PI.c_ge, PI.c_is, PI.c_isn, PI.tru_bl, PI.tru_int, PI.t_abs, t_len_t, t_len_l, PI.t_int, PI.t_intb, PI.t_isi, PI.t_max2, PI.t_min2, List.map_cons, List.map_nil, List.append_nil, List.nil_append, List.cons_append, List.length_cons, List.length_nil, List.replicate_zero, List.replicate_succ, if_true, if_false, Bool.true_and, Bool.and_true, Bool.not_true, Bool.not_false, decide_true, decide_false, asgs, PI.q_if, reduceIte, reduceCtorEq, id_eq, Option.map_some, PI.rq_ite, toInt, Nat.reduceSub, Nat.reduceAdd, Int.reduceLE, Int.reduceLT, Int.reduceNeg, Nat.reduceLT, Nat.reduceLeDiff, Int.reduceEq, decide_eq_true_eq, and_true, true_and, Bool.false_eq_true, and_self]
end
end Lw

/-! k14: numbers -/
namespace Lw
open PySem PySem.Spec PyProof.Rows L2 PI
def SP (b : Bool) (k h : Int) : Prop := if b then k ≤ h else h ≤ -k
def sx (b : Bool) (y : Int) : Int := if b then y else 0 - y
theorem st_k {bh bx : Bool} {k h c w y : Int} (hk : k = 1 ∨ k = 2) (hw : 0 ≤ w) (hy : w + 2 ≤ y) (hc1 : -w ≤ c) (hc2 : c ≤ w) (hh : SP bh k h) : SP (bh == bx) (k * y - w) (h * sx bx y + c) := by
  have y0 : 0 ≤ y := by omega
  have up : ∀ g : Int, k ≤ g → k * y ≤ g * y := fun g hg => Int.mul_le_mul_of_nonneg_right hg y0
  have e1 : ∀ g : Int, (-g) * y = -(g * y) := fun g => Int.neg_mul g y
  have e2 : h * (0 - y) = -(h * y) := by rw [Int.mul_sub, Int.mul_zero, Int.zero_sub]
  cases bh with
  | true =>
    have h1 : k ≤ h := hh
    have u := up h h1
    cases bx with
    | true =>
      show k * y - w ≤ h * y + c
      omega
    | false =>
      show h * (0 - y) + c ≤ -(k * y - w)
      rw [e2]
      omega
  | false =>
    have h1 : h ≤ -k := hh
    have u := up (-h) (by omega)
    rw [e1] at u
    cases bx with
    | true =>
      show h * y + c ≤ -(k * y - w)
      omega
    | false =>
      show k * y - w ≤ h * (0 - y) + c
      rw [e2]
      omega
theorem SP.weak {b : Bool} {k j h : Int} (hh : SP b k h) (hj : j ≤ k) : SP b j h := by
  cases b with
  | true => exact Int.le_trans hj hh
  | false =>
    have : h ≤ -k := hh
    show h ≤ -j
    omega
theorem st_1 {bh bx : Bool} {h c w y : Int} (hw : 0 ≤ w) (hy : w + 2 ≤ y) (hc1 : -w ≤ c) (hc2 : c ≤ w) (hh : SP bh 1 h) : SP (bh == bx) 2 (h * sx bx y + c) :=
  (st_k (.inl rfl) hw hy hc1 hc2 hh).weak (by omega)
theorem sgn_of {x : Int} (h : x ≠ 0) : SP (decide (0 < x)) 1 x := by
  by_cases h0 : 0 < x
  · rw [decide_eq_true h0]; exact h0
  · rw [decide_eq_false h0]; show x ≤ -1; omega
theorem ab_le (x : Int) : -iabs x ≤ x ∧ x ≤ iabs x := by unfold iabs; split <;> omega
/-- the sign of the value far out, by the degree -/
def sgB (r : List Int) (bx : Bool) : Bool := match r with
  | [_, b] => decide (0 < b) == bx
  | [_, _, c] => (decide (0 < c) == bx) == bx
  | [_, _, _, d] => ((decide (0 < d) == bx) == bx) == bx
  | _ => true
theorem far_out {r : List Int} (h : LP r) {y : Int} (hy : wh r + 2 ≤ y) (bx : Bool) : SP (sgB r bx) (2 * y - wh r) (hn r (sx bx y)) := by
  rcases h with ⟨a, b, rfl, _, hb, h2⟩ | ⟨a, b, c, rfl, _, _, hc⟩ | ⟨a, b, c, d, rfl, _, _, _, hd⟩
  · have a1 := ab_le a
    have n1 : 0 ≤ iabs a := ab_nn a
    have hw : wh [a, b] = iabs a := rfl
    rw [hw] at hy ⊢
    have s2 : SP (decide (0 < b)) 2 b := by
      by_cases h0 : 0 < b
      · rw [decide_eq_true h0]; show 2 ≤ b; omega
      · rw [decide_eq_false h0]; show b ≤ -2; omega
    have := st_k (bx := bx) (.inr rfl) n1 hy a1.1 a1.2 s2
    have e : hn [a, b] (sx bx y) = b * sx bx y + a := by show (0 * sx bx y + b) * sx bx y + a = _; rw [Int.zero_mul, Int.zero_add]
    rw [e]
    exact this
  · have a1 := ab_le a; have b1 := ab_le b
    have n1 : 0 ≤ iabs a := ab_nn a
    have n2 : 0 ≤ iabs b := ab_nn b
    have hw : wh [a, b, c] = iabs a + iabs b := rfl
    rw [hw] at hy ⊢
    have s1 := st_1 (bx := bx) (c := b) (w := iabs a + iabs b) (y := y) (by omega) hy (by omega) (by omega) (sgn_of hc.2.2)
    have := st_k (bx := bx) (c := a) (w := iabs a + iabs b) (y := y) (.inr rfl) (by omega) hy (by omega) (by omega) s1
    have e : hn [a, b, c] (sx bx y) = (c * sx bx y + b) * sx bx y + a := by show ((0 * sx bx y + c) * sx bx y + b) * sx bx y + a = _; rw [Int.zero_mul, Int.zero_add]
    rw [e]
    exact this
  · have a1 := ab_le a; have b1 := ab_le b; have c1 := ab_le c
    have n1 : 0 ≤ iabs a := ab_nn a
    have n2 : 0 ≤ iabs b := ab_nn b
    have n3 : 0 ≤ iabs c := ab_nn c
    have hw : wh [a, b, c, d] = iabs a + iabs b + iabs c := rfl
    rw [hw] at hy ⊢
    have s0 := st_1 (bx := bx) (c := c) (w := iabs a + iabs b + iabs c) (y := y) (by omega) hy (by omega) (by omega) (sgn_of hd.2.2)
    have s1 := st_1 (bx := bx) (c := b) (w := iabs a + iabs b + iabs c) (y := y) (by omega) hy (by omega) (by omega) (s0.weak (by decide))
    have := st_k (bx := bx) (c := a) (w := iabs a + iabs b + iabs c) (y := y) (.inr rfl) (by omega) hy (by omega) (by omega) s1
    have e : hn [a, b, c, d] (sx bx y) = ((d * sx bx y + c) * sx bx y + b) * sx bx y + a := by show (((0 * sx bx y + d) * sx bx y + c) * sx bx y + b) * sx bx y + a = _; rw [Int.zero_mul, Int.zero_add]
    rw [e]
    exact this
/-- the value far out is large -/
theorem far_ab {r : List Int} (h : LP r) {y : Int} (hy : wh r + 2 ≤ y) (bx : Bool) : ¬ iabs (hn r (sx bx y)) < 2 * iabs (sx bx y) - wh r := by
  have s := far_out h hy bx
  have w := (wh_bd h).1
  have e : iabs (sx bx y) = y := by
    unfold iabs sx
    cases bx
    · rw [if_neg Bool.false_ne_true, if_pos (by omega)]; omega
    · rw [if_pos rfl, if_neg (by omega)]
  rw [e]
  unfold iabs
  cases hb : sgB r bx with
  | true =>
    rw [hb] at s
    have s : 2 * y - wh r ≤ hn r (sx bx y) := s
    split <;> omega
  | false =>
    rw [hb] at s
    have s : hn r (sx bx y) ≤ -(2 * y - wh r) := s
    split <;> omega
/-- the sign far out -/
theorem far_sg {r : List Int} (h : LP r) {y : Int} (hy : wh r + 2 ≤ y) (bx : Bool) : decide (0 < hn r (sx bx y)) = sgB r bx := by
  have s := far_out h hy bx
  have w := (wh_bd h).1
  cases hb : sgB r bx with
  | true =>
    rw [hb] at s
    have s : 2 * y - wh r ≤ hn r (sx bx y) := s
    exact decide_eq_true (by omega)
  | false =>
    rw [hb] at s
    have s : hn r (sx bx y) ≤ -(2 * y - wh r) := s
    exact decide_eq_false (by omega)
def sgI (b : Bool) : Int := if b then 1 else -1
theorem sgD_eq {r : List Int} (h : LP r) : sgD r = .tup [.int (sgI (sgB r false)), .int (sgI (sgB r true))] := by
  rcases h with ⟨a, b, rfl, _, hb, h2⟩ | ⟨a, b, c, rfl, _, _, hc⟩ | ⟨a, b, c, d, rfl, _, _, _, hd⟩
  · by_cases h0 : 0 < b <;> simp [sgD, sgB, sgI, h0]
  · by_cases h0 : 0 < c <;> simp [sgD, sgB, sgI, h0]
  · by_cases h0 : 0 < d <;> simp [sgD, sgB, sgI, h0]
/-! drawing a leap -/
section
variable {F k : Nat} {S : Sto}
theorem takes1 (F k b : Nat) : Takes1 (CK F (k + 1)) 14 b := fun S m h hm hb => by
  show RQ (runFn (CK F k) F f14 [.ref b, .int m] S) _
  exact take_ok h hm hb
theorem c_pick {b : Nat} {xs : List D} (h : Bx S b) (h1 : xs ≠ []) (h2 : xs.length < 1000) : RQ (CK F (k + 2) 15 [] [.ref b, .lst xs] S) (fun d S' => d ∈ xs ∧ Bx S' b ∧ ∃ o, S' = S.set b o) := by
  show RQ (runFn (CK F (k + 1)) F f15 [.ref b, .lst xs] S) _
  exact pick_ok (takes1 F k b) h h1 h2
theorem c_take {b : Nat} {m : Int} (h : Bx S b) (hm : 0 < m) (hb : bits m < 9000) : RQ (CK F (k + 1) 14 [] [.ref b, .int m] S) (InBx b m S) := takes1 F k b S m h hm hb
/-- the box moved on: the rest of the store stands -/
def Mv (b : Nat) (S S' : Sto) : Prop := Bx S' b ∧ S'.length = S.length
theorem mv_of {b : Nat} {S S' : Sto} {o : O} (h : Bx S' b) (e : S' = S.set b o) : Mv b S S' := ⟨h, by rw [e, List.length_set]⟩
theorem Mv.trans {b : Nat} {S S1 S2 : Sto} (h : Mv b S S1) (g : Mv b S1 S2) : Mv b S S2 := ⟨g.1, g.2.trans h.2⟩
/-- so many takes, moved down by a half -/
theorem take_comp {b : Nat} {m w : Int} {e : E} {ρ : PI.Env} {i n : Nat} {Q : List D → Sto → Prop} (h : Bx S b) (hm : 0 < m) (hb : bits m < 9000) (hn : n ≤ 3)
    (he : ∀ (d : D) (S' : Sto) (Q : D → Sto → Prop), RQ (CK F (k + 1) 14 [] [.ref b, .int m] S') (fun x S1 => RQ (binop .sub x (.int w) S1) Q) → RQ (eltF (CK F (k + 1)) e (ρ.set i (some d)) S') Q)
    (hq : ∀ (l : List Int) S', l.length = n → (∀ c ∈ l, -w ≤ c ∧ c < m - w) → Mv b S S' → Q (l.map D.int) S') : RQ (compL (.nm i) (tstF (CK F (k + 1)) .nil) (eltF (CK F (k + 1)) e) ρ (rngL 0 n) 0 S) Q := by
  have hl : (rngL 0 n).length = n := by unfold rngL; rw [List.length_map, List.length_range]
  refine rq_comp (fun _ S' => Mv b S S') (fun _ y => ∃ c, y = .int c ∧ -w ≤ c ∧ c < m - w) (ilim (by omega)) ⟨h, rfl⟩ ?_ ?_
  · intro j d S' hd hI
    refine ⟨_, rfl, ?_⟩
    refine he _ _ _ ?_
    refine (c_take hI.1 hm hb).mono ?_
    rintro _ S2 ⟨r, rfl, r1, r2, r3, o, r4⟩
    rw [b_sub]
    exact ⟨⟨r - w, rfl, by omega, by omega⟩, hI.trans (mv_of r3 r4)⟩
  · intro ys S' hy hp hI
    have : ∃ l : List Int, ys = l.map D.int ∧ ∀ c ∈ l, -w ≤ c ∧ c < m - w := by
      have hp' : ∀ y ∈ ys, ∃ c, y = .int c ∧ -w ≤ c ∧ c < m - w := fun y hy => by
        obtain ⟨i, hi⟩ := List.getElem?_of_mem hy
        exact hp i y hi
      clear hp hy hq
      induction ys with
      | nil => exact ⟨[], rfl, fun c hc => by cases hc⟩
      | cons y ys ih =>
        obtain ⟨l, e1, e2⟩ := ih fun y hy => hp' y (List.mem_cons_of_mem _ hy)
        obtain ⟨c, e3, e4⟩ := hp' y List.mem_cons_self
        exact ⟨c :: l, by rw [e3, e1]; rfl, fun z hz => (List.mem_cons.mp hz).elim (fun e => by rw [e]; exact e4) (e2 z)⟩
    obtain ⟨l, rfl, h2⟩ := this
    rw [List.length_map, hl] at hy
    exact hq l S' hy h2 hI
end
end Lw

/-! k14: a drawn leap -/
namespace Lw
open PySem PySem.Spec PyProof.Rows L2 PI
section
variable {F k : Nat} {S : Sto}
theorem LP.mk {l : List Int} {c : Int} (h1 : 1 ≤ l.length) (h3 : l.length ≤ 3) (hl : ∀ x ∈ l, okc x) (hc : okl c) (h2 : l.length = 1 → 2 ≤ c ∨ c ≤ -2) : LP (l ++ [c]) := by
  match l, h1, h3, hl, h2 with
  | [a], _, _, hl, h2 => exact .inl ⟨a, c, rfl, hl a (by simp), hc, h2 rfl⟩
  | [a, b], _, _, hl, _ => exact .inr (.inl ⟨a, b, c, rfl, hl a (by simp), hl b (by simp), hc⟩)
  | [a, b, d], _, _, hl, _ => exact .inr (.inr ⟨a, b, d, c, rfl, hl a (by simp), hl b (by simp), hl d (by simp), hc⟩)
theorem rng_0 {n : Nat} (hn : n ≤ 2000) : rng [.int (n : Int)] = some (rngL 0 n) := by
  have h1 : ((n : Int)).toNat = n := by omega
  have h2 : (-4611686018427387904 : Int) ≤ (n : Int) ∧ (n : Int) < 4611686018427387904 := by omega
  have e62 : (2 : Int) ^ 62 = 4611686018427387904 := by decide +kernel
  unfold rng
  dsimp only
  rw [e62, if_pos h2, h1]
/-- a leap has been drawn -/
def Dr (b : Nat) (S : Sto) : D → Sto → Prop := fun d S' => ∃ r, d = .tup (r.map D.int) ∧ LP r ∧ Mv b S S'
theorem lim1 (d : D) : [d].length ≤ lim := ilim (by simp only [List.length_cons, List.length_nil]; omega)
theorem fin_leap {b : Nat} {S0 S : Sto} {l : List Int} {c : Int} {Q : D → Sto → Prop} (hl : l.length ≤ 3) (hq : Q (.tup ((l ++ [c]).map D.int)) S) : RQ (binop .add (.lst (l.map D.int)) (.lst [.int c]) S) fun d S' => RQ (biop .tuple [d] S') Q := by
  rw [b_lst, t_tup, List.length_map]
  refine ⟨ilim (by simp only [List.length_cons, List.length_nil]; omega), ?_⟩
  rw [List.map_append] at hq
  exact hq
theorem c_small_leap {b : Nat} (h : Bx S b) : RQ (CK F (k + 3) 18 [] [.ref b] S) (Dr b S) := by
  show RQ (runFn (CK F (k + 2)) F f18 [.ref b] S) _
  rw [rq_fn]
  unfold f18 b18
  simp only [PI.w_loc, PI.w_cst, PI.w_gfn, PI.w_bin, PI.w_neg, PI.w_inv, PI.w_not, PI.w_cmp, PI.w_chn, PI.w_and, PI.w_or, PI.w_iteE, PI.w_tup, PI.w_lst, PI.w_idx, PI.w_slL, PI.w_slU, PI.w_slLU, PI.w_rev, PI.w_call, PI.w_bi, PI.w_me, PI.w_comp, PI.w_nilS, PI.w_consS, PI.w_nilT, PI.w_consT, PI.w_iex, PI.w_irng, PI.w_ienm, PI.w_izp, PI.w_irv, PI.v_nil, PI.v_cons, PI.v_pass, PI.v_brk, PI.v_cnt, PI.v_never, PI.v_set, PI.v_asg, PI.asg_tp, PI.v_aug, PI.v_seti, PI.v_ex, PI.v_ret, PI.v_retN, PI.v_ite, PI.v_whl, PI.v_for, PI.body_eq, PI.rq_ret, PI.rq_opt, PI.rq_ok, PI.rsq_ok, PI.rq_truM, PI.q_nx, PI.q_rt, PI.q_bk, PI.q_ct, List.getElem?_cons_zero, List.getElem?_cons_succ, List.set_cons_zero, List.set_cons_succ, Option.join_some, wipeE, PI.b_add, PI.b_sub, PI.b_mul, PI.b_fdiv, PI.b_mod, PI.b_pow, PI.a_add, PI.a_sub, PI.a_mul, PI.u_int, PI.c_lt, PI.c_le, PI.c_gt, PI.c_ge, PI.c_is, PI.c_isn, PI.tru_bl, PI.tru_int, PI.t_abs, t_len_t, t_len_l, PI.t_int, PI.t_intb, PI.t_isi, PI.t_max2, PI.t_min2, List.map_cons, List.map_nil, List.append_nil, List.nil_append, List.cons_append, List.length_cons, List.length_nil, List.replicate_zero, List.replicate_succ, if_true, if_false, Bool.true_and, Bool.and_true, Bool.not_true, Bool.not_false, decide_true, decide_false, asgs, PI.q_if, reduceIte, reduceCtorEq, id_eq, Option.map_some, PI.rq_ite, toInt, Nat.reduceSub, Nat.reduceAdd, Int.reduceLE, Int.reduceLT, Int.reduceNeg, Nat.reduceLT, Nat.reduceLeDiff, Int.reduceEq, decide_eq_true_eq, and_true, true_and, Bool.false_eq_true, and_self, newL_t (show ([D.int 1, D.int 1, D.int 1, D.int 2, D.int 2, D.int 3] : List D).length ≤ lim from ilim (by decide))]
  refine (c_pick h (by simp) (by decide)).mono ?_
  rintro d S1 ⟨hd, hb1, o1, e1⟩
  have m1 := mv_of hb1 e1
  have : ∃ n : Nat, d = .int (n : Int) ∧ 1 ≤ n ∧ n ≤ 3 := by
    simp only [List.mem_cons, List.not_mem_nil, or_false] at hd
    rcases hd with rfl | rfl | rfl | rfl | rfl | rfl
    · exact ⟨1, rfl, by decide, by decide⟩
    · exact ⟨1, rfl, by decide, by decide⟩
    · exact ⟨1, rfl, by decide, by decide⟩
    · exact ⟨2, rfl, by decide, by decide⟩
    · exact ⟨2, rfl, by decide, by decide⟩
    · exact ⟨3, rfl, by decide, by decide⟩
  obtain ⟨n, hdn, n1, n3⟩ := this
  clear hd
  subst hdn
  simp only [PI.w_loc, PI.w_cst, PI.w_gfn, PI.w_bin, PI.w_neg, PI.w_inv, PI.w_not, PI.w_cmp, PI.w_chn, PI.w_and, PI.w_or, PI.w_iteE, PI.w_tup, PI.w_lst, PI.w_idx, PI.w_slL, PI.w_slU, PI.w_slLU, PI.w_rev, PI.w_call, PI.w_bi, PI.w_me, PI.w_comp, PI.w_nilS, PI.w_consS, PI.w_nilT, PI.w_consT, PI.w_iex, PI.w_irng, PI.w_ienm, PI.w_izp, PI.w_irv, PI.v_nil, PI.v_cons, PI.v_pass, PI.v_brk, PI.v_cnt, PI.v_never, PI.v_set, PI.v_asg, PI.asg_tp, PI.v_aug, PI.v_seti, PI.v_ex, PI.v_ret, PI.v_retN, PI.v_ite, PI.v_whl, PI.v_for, PI.body_eq, PI.rq_ret, PI.rq_opt, PI.rq_ok, PI.rsq_ok, PI.rq_truM, PI.q_nx, PI.q_rt, PI.q_bk, PI.q_ct, List.getElem?_cons_zero, List.getElem?_cons_succ, List.set_cons_zero, List.set_cons_succ, Option.join_some, wipeE, PI.b_add, PI.b_sub, PI.b_mul, PI.b_fdiv, PI.b_mod, PI.b_pow, PI.a_add, PI.a_sub, PI.a_mul, PI.u_int, PI.c_lt, PI.c_le, PI.c_gt, PI.c_ge, PI.c_is, PI.c_isn, PI.tru_bl, PI.tru_int, PI.t_abs, t_len_t, t_len_l, PI.t_int, PI.t_intb, PI.t_isi, PI.t_max2, PI.t_min2, List.map_cons, List.map_nil, List.append_nil, List.nil_append, List.cons_append, List.length_cons, List.length_nil, List.replicate_zero, List.replicate_succ, if_true, if_false, Bool.true_and, Bool.and_true, Bool.not_true, Bool.not_false, decide_true, decide_false, asgs, PI.q_if, reduceIte, reduceCtorEq, id_eq, Option.map_some, PI.rq_ite, toInt, Nat.reduceSub, Nat.reduceAdd, Int.reduceLE, Int.reduceLT, Int.reduceNeg, Nat.reduceLT, Nat.reduceLeDiff, Int.reduceEq, decide_eq_true_eq, and_true, true_and, Bool.false_eq_true, and_self, rq_rng (rng_0 (show n ≤ 2000 by omega))]
  refine take_comp (m := 13) (w := 6) hb1 (by decide) (by decide) n3 (fun d S' Q q => ?_) ?_
  · rw [elt_eq]
    simp only [PI.w_loc, PI.w_cst, PI.w_gfn, PI.w_bin, PI.w_neg, PI.w_inv, PI.w_not, PI.w_cmp, PI.w_chn, PI.w_and, PI.w_or, PI.w_iteE, PI.w_tup, PI.w_lst, PI.w_idx, PI.w_slL, PI.w_slU, PI.w_slLU, PI.w_rev, PI.w_call, PI.w_bi, PI.w_me, PI.w_comp, PI.w_nilS, PI.w_consS, PI.w_nilT, PI.w_consT, PI.w_iex, PI.w_irng, PI.w_ienm, PI.w_izp, PI.w_irv, PI.v_nil, PI.v_cons, PI.v_pass, PI.v_brk, PI.v_cnt, PI.v_never, PI.v_set, PI.v_asg, PI.asg_tp, PI.v_aug, PI.v_seti, PI.v_ex, PI.v_ret, PI.v_retN, PI.v_ite, PI.v_whl, PI.v_for, PI.body_eq, PI.rq_ret, PI.rq_opt, PI.rq_ok, PI.rsq_ok, PI.rq_truM, PI.q_nx, PI.q_rt, PI.q_bk, PI.q_ct, List.getElem?_cons_zero, List.getElem?_cons_succ, List.set_cons_zero, List.set_cons_succ, Option.join_some, wipeE, PI.b_add, PI.b_sub, PI.b_mul, PI.b_fdiv, PI.b_mod, PI.b_pow, PI.a_add, PI.a_sub, PI.a_mul, PI.u_int, PI.c_lt, PI.c_le, PI.c_gt, PI.c_ge, PI.c_is, PI.c_isn, PI.tru_bl, PI.tru_int, PI.t_abs, t_len_t, t_len_l, PI.t_int, PI.t_intb, PI.t_isi, PI.t_max2, PI.t_min2, List.map_cons, List.map_nil, List.append_nil, List.nil_append, List.cons_append, List.length_cons, List.length_nil, List.replicate_zero, List.replicate_succ, if_true, if_false, Bool.true_and, Bool.and_true, Bool.not_true, Bool.not_false, decide_true, decide_false, asgs, PI.q_if, reduceIte, reduceCtorEq, id_eq, Option.map_some, PI.rq_ite, toInt, Nat.reduceSub, Nat.reduceAdd, Int.reduceLE, Int.reduceLT, Int.reduceNeg, Nat.reduceLT, Nat.reduceLeDiff, Int.reduceEq, decide_eq_true_eq, and_true, true_and, Bool.false_eq_true, and_self]
    exact q
  intro l S2 hl hc m2
  rw [newL_t (ilim (by rw [List.length_map]; omega))]
  simp only [PI.w_loc, PI.w_cst, PI.w_gfn, PI.w_bin, PI.w_neg, PI.w_inv, PI.w_not, PI.w_cmp, PI.w_chn, PI.w_and, PI.w_or, PI.w_iteE, PI.w_tup, PI.w_lst, PI.w_idx, PI.w_slL, PI.w_slU, PI.w_slLU, PI.w_rev, PI.w_call, PI.w_bi, PI.w_me, PI.w_comp, PI.w_nilS, PI.w_consS, PI.w_nilT, PI.w_consT, PI.w_iex, PI.w_irng, PI.w_ienm, PI.w_izp, PI.w_irv, PI.v_nil, PI.v_cons, PI.v_pass, PI.v_brk, PI.v_cnt, PI.v_never, PI.v_set, PI.v_asg, PI.asg_tp, PI.v_aug, PI.v_seti, PI.v_ex, PI.v_ret, PI.v_retN, PI.v_ite, PI.v_whl, PI.v_for, PI.body_eq, PI.rq_ret, PI.rq_opt, PI.rq_ok, PI.rsq_ok, PI.rq_truM, PI.q_nx, PI.q_rt, PI.q_bk, PI.q_ct, List.getElem?_cons_zero, List.getElem?_cons_succ, List.set_cons_zero, List.set_cons_succ, Option.join_some, wipeE, PI.b_add, PI.b_sub, PI.b_mul, PI.b_fdiv, PI.b_mod, PI.b_pow, PI.a_add, PI.a_sub, PI.a_mul, PI.u_int, PI.c_lt, PI.c_le, PI.c_gt, PI.c_ge, PI.c_is, PI.c_isn, PI.tru_bl, PI.tru_int, PI.t_abs, t_len_t, t_len_l, PI.t_int, PI.t_intb, PI.t_isi, PI.t_max2, PI.t_min2, List.map_cons, List.map_nil, List.append_nil, List.nil_append, List.cons_append, List.length_cons, List.length_nil, List.replicate_zero, List.replicate_succ, if_true, if_false, Bool.true_and, Bool.and_true, Bool.not_true, Bool.not_false, decide_true, decide_false, asgs, PI.q_if, reduceIte, reduceCtorEq, id_eq, Option.map_some, PI.rq_ite, toInt, Nat.reduceSub, Nat.reduceAdd, Int.reduceLE, Int.reduceLT, Int.reduceNeg, Nat.reduceLT, Nat.reduceLeDiff, Int.reduceEq, decide_eq_true_eq, and_true, true_and, Bool.false_eq_true, and_self, c_eq]
  have hcs : ∀ x ∈ l, okc x := fun x hx => ⟨by have := (hc x hx).1; omega, by have := (hc x hx).2; omega⟩
  have fin : ∀ (c : Int) (S3 : Sto), Mv b S2 S3 → okl c → (n = 1 → 2 ≤ c ∨ c ≤ -2) → Dr b S (.tup ((l ++ [c]).map D.int)) S3 := fun c S3 m3 ok o1 => ⟨_, rfl, LP.mk (by omega) (by omega) hcs ok (fun h => o1 (by omega)), (m1.trans m2).trans m3⟩
  split
  · rename_i hn1
    rw [newL_t (ilim (Nat.le_of_ble_eq_true rfl))]
    refine (c_pick m2.1 (by simp) (by decide)).mono ?_
    rintro d S3 ⟨hd, hb3, o3, e3⟩
    have m3 := mv_of hb3 e3
    simp only [List.mem_cons, List.not_mem_nil, or_false] at hd
    have : ∃ c : Int, d = .int c ∧ okl c ∧ (2 ≤ c ∨ c ≤ -2) := by
      rcases hd with rfl | rfl | rfl | rfl
      · exact ⟨2, rfl, ⟨by decide, by decide, by decide⟩, .inl (by decide)⟩
      · exact ⟨-2, rfl, ⟨by decide, by decide, by decide⟩, .inr (by decide)⟩
      · exact ⟨3, rfl, ⟨by decide, by decide, by decide⟩, .inl (by decide)⟩
      · exact ⟨-3, rfl, ⟨by decide, by decide, by decide⟩, .inr (by decide)⟩
    obtain ⟨c, rfl, hok, hc2⟩ := this
    simp only [PI.w_loc, PI.w_cst, PI.w_gfn, PI.w_bin, PI.w_neg, PI.w_inv, PI.w_not, PI.w_cmp, PI.w_chn, PI.w_and, PI.w_or, PI.w_iteE, PI.w_tup, PI.w_lst, PI.w_idx, PI.w_slL, PI.w_slU, PI.w_slLU, PI.w_rev, PI.w_call, PI.w_bi, PI.w_me, PI.w_comp, PI.w_nilS, PI.w_consS, PI.w_nilT, PI.w_consT, PI.w_iex, PI.w_irng, PI.w_ienm, PI.w_izp, PI.w_irv, PI.v_nil, PI.v_cons, PI.v_pass, PI.v_brk, PI.v_cnt, PI.v_never, PI.v_set, PI.v_asg, PI.asg_tp, PI.v_aug, PI.v_seti, PI.v_ex, PI.v_ret, PI.v_retN, PI.v_ite, PI.v_whl, PI.v_for, PI.body_eq, PI.rq_ret, PI.rq_opt, PI.rq_ok, PI.rsq_ok, PI.rq_truM, PI.q_nx, PI.q_rt, PI.q_bk, PI.q_ct, List.getElem?_cons_zero, List.getElem?_cons_succ, List.set_cons_zero, List.set_cons_succ, Option.join_some, wipeE, PI.b_add, PI.b_sub, PI.b_mul, PI.b_fdiv, PI.b_mod, PI.b_pow, PI.a_add, PI.a_sub, PI.a_mul, PI.u_int, PI.c_lt, PI.c_le, PI.c_gt, PI.c_ge, PI.c_is, PI.c_isn, PI.tru_bl, PI.tru_int, PI.t_abs, t_len_t, t_len_l, PI.t_int, PI.t_intb, PI.t_isi, PI.t_max2, PI.t_min2, List.map_cons, List.map_nil, List.append_nil, List.nil_append, List.cons_append, List.length_cons, List.length_nil, List.replicate_zero, List.replicate_succ, if_true, if_false, Bool.true_and, Bool.and_true, Bool.not_true, Bool.not_false, decide_true, decide_false, asgs, PI.q_if, reduceIte, reduceCtorEq, id_eq, Option.map_some, PI.rq_ite, toInt, Nat.reduceSub, Nat.reduceAdd, Int.reduceLE, Int.reduceLT, Int.reduceNeg, Nat.reduceLT, Nat.reduceLeDiff, Int.reduceEq, decide_eq_true_eq, and_true, true_and, Bool.false_eq_true, and_self, newL_t (lim1 (.int c))]
    exact fin_leap (S0 := S) (b := b) (by omega) (fin c S3 m3 hok fun _ => hc2)
  · rename_i hn1
    rw [newL_t (ilim (Nat.le_of_ble_eq_true rfl))]
    refine (c_pick m2.1 (by simp) (by decide)).mono ?_
    rintro d S3 ⟨hd, hb3, o3, e3⟩
    have m3 := mv_of hb3 e3
    simp only [List.mem_cons, List.not_mem_nil, or_false] at hd
    have : ∃ c : Int, d = .int c ∧ okl c := by
      rcases hd with rfl | rfl | rfl
      · exact ⟨1, rfl, ⟨by decide, by decide, by decide⟩⟩
      · exact ⟨-1, rfl, ⟨by decide, by decide, by decide⟩⟩
      · exact ⟨2, rfl, ⟨by decide, by decide, by decide⟩⟩
    obtain ⟨c, rfl, hok⟩ := this
    simp only [PI.w_loc, PI.w_cst, PI.w_gfn, PI.w_bin, PI.w_neg, PI.w_inv, PI.w_not, PI.w_cmp, PI.w_chn, PI.w_and, PI.w_or, PI.w_iteE, PI.w_tup, PI.w_lst, PI.w_idx, PI.w_slL, PI.w_slU, PI.w_slLU, PI.w_rev, PI.w_call, PI.w_bi, PI.w_me, PI.w_comp, PI.w_nilS, PI.w_consS, PI.w_nilT, PI.w_consT, PI.w_iex, PI.w_irng, PI.w_ienm, PI.w_izp, PI.w_irv, PI.v_nil, PI.v_cons, PI.v_pass, PI.v_brk, PI.v_cnt, PI.v_never, PI.v_set, PI.v_asg, PI.asg_tp, PI.v_aug, PI.v_seti, PI.v_ex, PI.v_ret, PI.v_retN, PI.v_ite, PI.v_whl, PI.v_for, PI.body_eq, PI.rq_ret, PI.rq_opt, PI.rq_ok, PI.rsq_ok, PI.rq_truM, PI.q_nx, PI.q_rt, PI.q_bk, PI.q_ct, List.getElem?_cons_zero, List.getElem?_cons_succ, List.set_cons_zero, List.set_cons_succ, Option.join_some, wipeE, PI.b_add, PI.b_sub, PI.b_mul, PI.b_fdiv, PI.b_mod, PI.b_pow, PI.a_add, PI.a_sub, PI.a_mul, PI.u_int, PI.c_lt, PI.c_le, PI.c_gt, PI.c_ge, PI.c_is, PI.c_isn, PI.tru_bl, PI.tru_int, PI.t_abs, t_len_t, t_len_l, PI.t_int, PI.t_intb, PI.t_isi, PI.t_max2, PI.t_min2, List.map_cons, List.map_nil, List.append_nil, List.nil_append, List.cons_append, List.length_cons, List.length_nil, List.replicate_zero, List.replicate_succ, if_true, if_false, Bool.true_and, Bool.and_true, Bool.not_true, Bool.not_false, decide_true, decide_false, asgs, PI.q_if, reduceIte, reduceCtorEq, id_eq, Option.map_some, PI.rq_ite, toInt, Nat.reduceSub, Nat.reduceAdd, Int.reduceLE, Int.reduceLT, Int.reduceNeg, Nat.reduceLT, Nat.reduceLeDiff, Int.reduceEq, decide_eq_true_eq, and_true, true_and, Bool.false_eq_true, and_self, newL_t (lim1 (.int c))]
    exact fin_leap (S0 := S) (b := b) (by omega) (fin c S3 m3 hok fun h => absurd (by omega) hn1)
end
end Lw

/-! k14: every drawn leap -/
namespace Lw
open PySem PySem.Spec PyProof.Rows L2 PI
section
variable {F k : Nat} {S : Sto}
theorem okl2 : okl 2 ∧ okl (-2) ∧ okl 3 ∧ okl (-5) ∧ okl 1 ∧ okl (-1) ∧ okl 999 := ⟨⟨by decide, by decide, by decide⟩, ⟨by decide, by decide, by decide⟩, ⟨by decide, by decide, by decide⟩, ⟨by decide, by decide, by decide⟩, ⟨by decide, by decide, by decide⟩, ⟨by decide, by decide, by decide⟩, ⟨by decide, by decide, by decide⟩⟩
theorem pick_n {d : D} (h : d ∈ [D.int 1, D.int 2, D.int 2, D.int 3]) : ∃ n : Nat, d = .int (n : Int) ∧ 1 ≤ n ∧ n ≤ 3 := by
  simp only [List.mem_cons, List.not_mem_nil, or_false] at h
  rcases h with rfl | rfl | rfl | rfl
  · exact ⟨1, rfl, by decide, by decide⟩
  · exact ⟨2, rfl, by decide, by decide⟩
  · exact ⟨2, rfl, by decide, by decide⟩
  · exact ⟨3, rfl, by decide, by decide⟩
theorem pick_m {d : D} (h : d ∈ [D.int 20, D.int 100, D.int 400]) : ∃ m : Int, d = .int m ∧ 20 ≤ m ∧ m ≤ 400 := by
  simp only [List.mem_cons, List.not_mem_nil, or_false] at h
  rcases h with rfl | rfl | rfl
  · exact ⟨20, rfl, by decide, by decide⟩
  · exact ⟨100, rfl, by decide, by decide⟩
  · exact ⟨400, rfl, by decide, by decide⟩
theorem pick_a {d : D} (h : d ∈ [D.int 2, D.int (-2), D.int 3, D.int (-5)]) : ∃ c : Int, d = .int c ∧ okl c ∧ (2 ≤ c ∨ c ≤ -2) := by
  obtain ⟨o1, o2, o3, o4, _⟩ := okl2
  simp only [List.mem_cons, List.not_mem_nil, or_false] at h
  rcases h with rfl | rfl | rfl | rfl
  · exact ⟨2, rfl, o1, .inl (by decide)⟩
  · exact ⟨-2, rfl, o2, .inr (by decide)⟩
  · exact ⟨3, rfl, o3, .inl (by decide)⟩
  · exact ⟨-5, rfl, o4, .inr (by decide)⟩
theorem pick_b {d : D} (h : d ∈ [D.int 1, D.int (-1), D.int 2, D.int 999]) : ∃ c : Int, d = .int c ∧ okl c := by
  obtain ⟨o1, o2, o3, o4, o5, o6, o7⟩ := okl2
  simp only [List.mem_cons, List.not_mem_nil, or_false] at h
  rcases h with rfl | rfl | rfl | rfl
  · exact ⟨1, rfl, o5⟩
  · exact ⟨-1, rfl, o6⟩
  · exact ⟨2, rfl, o1⟩
  · exact ⟨999, rfl, o7⟩
theorem c_drawn {b : Nat} (h : Bx S b) : RQ (CK F (k + 4) 19 [] [.ref b] S) (Dr b S) := by
  show RQ (runFn (CK F (k + 3)) F f19 [.ref b] S) _
  rw [rq_fn]
  unfold f19 b19
  simp only [PI.w_loc, PI.w_cst, PI.w_gfn, PI.w_bin, PI.w_neg, PI.w_inv, PI.w_not, PI.w_cmp, PI.w_chn, PI.w_and, PI.w_or, PI.w_iteE, PI.w_tup, PI.w_lst, PI.w_idx, PI.w_slL, PI.w_slU, PI.w_slLU, PI.w_rev, PI.w_call, PI.w_bi, PI.w_me, PI.w_comp, PI.w_nilS, PI.w_consS, PI.w_nilT, PI.w_consT, PI.w_iex, PI.w_irng, PI.w_ienm, PI.w_izp, PI.w_irv, PI.v_nil, PI.v_cons, PI.v_pass, PI.v_brk, PI.v_cnt, PI.v_never, PI.v_set, PI.v_asg, PI.asg_tp, PI.v_aug, PI.v_seti, PI.v_ex, PI.v_ret, PI.v_retN, PI.v_ite, PI.v_whl, PI.v_for, PI.body_eq, PI.rq_ret, PI.rq_opt, PI.rq_ok, PI.rsq_ok, PI.rq_truM, PI.q_nx, PI.q_rt, PI.q_bk, PI.q_ct, List.getElem?_cons_zero, List.getElem?_cons_succ, List.set_cons_zero, List.set_cons_succ, Option.join_some, wipeE, PI.b_add, PI.b_sub, PI.b_mul, PI.b_fdiv, PI.b_mod, PI.b_pow, PI.a_add, PI.a_sub, PI.a_mul, PI.u_int, PI.c_lt, PI.c_le, PI.c_gt, PI.c_ge, PI.c_is, PI.c_isn, PI.tru_bl, PI.tru_int, PI.t_abs, t_len_t, t_len_l, PI.t_int, PI.t_intb, PI.t_isi, PI.t_max2, PI.t_min2, List.map_cons, List.map_nil, List.append_nil, List.nil_append, List.cons_append, List.length_cons, List.length_nil, List.replicate_zero, List.replicate_succ, if_true, if_false, Bool.true_and, Bool.and_true, Bool.not_true, Bool.not_false, decide_true, decide_false, asgs, PI.q_if, reduceIte, reduceCtorEq, id_eq, Option.map_some, PI.rq_ite, toInt, Nat.reduceSub, Nat.reduceAdd, Int.reduceLE, Int.reduceLT, Int.reduceNeg, Nat.reduceLT, Nat.reduceLeDiff, Int.reduceEq, decide_eq_true_eq, and_true, true_and, Bool.false_eq_true, and_self]
  refine (c_take (k := k + 2) h (by decide) (by decide)).mono ?_
  rintro _ S1 ⟨w, rfl, w1, w2, hb1, o1, e1⟩
  have m1 := mv_of hb1 e1
  simp only [PI.w_loc, PI.w_cst, PI.w_gfn, PI.w_bin, PI.w_neg, PI.w_inv, PI.w_not, PI.w_cmp, PI.w_chn, PI.w_and, PI.w_or, PI.w_iteE, PI.w_tup, PI.w_lst, PI.w_idx, PI.w_slL, PI.w_slU, PI.w_slLU, PI.w_rev, PI.w_call, PI.w_bi, PI.w_me, PI.w_comp, PI.w_nilS, PI.w_consS, PI.w_nilT, PI.w_consT, PI.w_iex, PI.w_irng, PI.w_ienm, PI.w_izp, PI.w_irv, PI.v_nil, PI.v_cons, PI.v_pass, PI.v_brk, PI.v_cnt, PI.v_never, PI.v_set, PI.v_asg, PI.asg_tp, PI.v_aug, PI.v_seti, PI.v_ex, PI.v_ret, PI.v_retN, PI.v_ite, PI.v_whl, PI.v_for, PI.body_eq, PI.rq_ret, PI.rq_opt, PI.rq_ok, PI.rsq_ok, PI.rq_truM, PI.q_nx, PI.q_rt, PI.q_bk, PI.q_ct, List.getElem?_cons_zero, List.getElem?_cons_succ, List.set_cons_zero, List.set_cons_succ, Option.join_some, wipeE, PI.b_add, PI.b_sub, PI.b_mul, PI.b_fdiv, PI.b_mod, PI.b_pow, PI.a_add, PI.a_sub, PI.a_mul, PI.u_int, PI.c_lt, PI.c_le, PI.c_gt, PI.c_ge, PI.c_is, PI.c_isn, PI.tru_bl, PI.tru_int, PI.t_abs, t_len_t, t_len_l, PI.t_int, PI.t_intb, PI.t_isi, PI.t_max2, PI.t_min2, List.map_cons, List.map_nil, List.append_nil, List.nil_append, List.cons_append, List.length_cons, List.length_nil, List.replicate_zero, List.replicate_succ, if_true, if_false, Bool.true_and, Bool.and_true, Bool.not_true, Bool.not_false, decide_true, decide_false, asgs, PI.q_if, reduceIte, reduceCtorEq, id_eq, Option.map_some, PI.rq_ite, toInt, Nat.reduceSub, Nat.reduceAdd, Int.reduceLE, Int.reduceLT, Int.reduceNeg, Nat.reduceLT, Nat.reduceLeDiff, Int.reduceEq, decide_eq_true_eq, and_true, true_and, Bool.false_eq_true, and_self]
  split
  · refine (c_small_leap hb1).mono ?_
    rintro d S2 ⟨r, rfl, hr, m2⟩
    exact ⟨r, rfl, hr, m1.trans m2⟩
  · rw [newL_t (ilim (Nat.le_of_ble_eq_true rfl))]
    refine (c_pick (k := k + 1) hb1 (by simp) (by decide)).mono ?_
    rintro d S2 ⟨hd, hb2, o2, e2⟩
    have m2 := m1.trans (mv_of hb2 e2)
    obtain ⟨m, hdm, g1, g2⟩ := pick_m hd
    clear hd
    subst hdm
    rw [newL_t (ilim (Nat.le_of_ble_eq_true rfl))]
    refine (c_pick (k := k + 1) hb2 (by simp) (by decide)).mono ?_
    rintro d S3 ⟨hd, hb3, o3, e3⟩
    have m3 := m2.trans (mv_of hb3 e3)
    obtain ⟨n, hdn, n1, n3⟩ := pick_n hd
    clear hd
    subst hdn
    simp only [PI.w_loc, PI.w_cst, PI.w_gfn, PI.w_bin, PI.w_neg, PI.w_inv, PI.w_not, PI.w_cmp, PI.w_chn, PI.w_and, PI.w_or, PI.w_iteE, PI.w_tup, PI.w_lst, PI.w_idx, PI.w_slL, PI.w_slU, PI.w_slLU, PI.w_rev, PI.w_call, PI.w_bi, PI.w_me, PI.w_comp, PI.w_nilS, PI.w_consS, PI.w_nilT, PI.w_consT, PI.w_iex, PI.w_irng, PI.w_ienm, PI.w_izp, PI.w_irv, PI.v_nil, PI.v_cons, PI.v_pass, PI.v_brk, PI.v_cnt, PI.v_never, PI.v_set, PI.v_asg, PI.asg_tp, PI.v_aug, PI.v_seti, PI.v_ex, PI.v_ret, PI.v_retN, PI.v_ite, PI.v_whl, PI.v_for, PI.body_eq, PI.rq_ret, PI.rq_opt, PI.rq_ok, PI.rsq_ok, PI.rq_truM, PI.q_nx, PI.q_rt, PI.q_bk, PI.q_ct, List.getElem?_cons_zero, List.getElem?_cons_succ, List.set_cons_zero, List.set_cons_succ, Option.join_some, wipeE, PI.b_add, PI.b_sub, PI.b_mul, PI.b_fdiv, PI.b_mod, PI.b_pow, PI.a_add, PI.a_sub, PI.a_mul, PI.u_int, PI.c_lt, PI.c_le, PI.c_gt, PI.c_ge, PI.c_is, PI.c_isn, PI.tru_bl, PI.tru_int, PI.t_abs, t_len_t, t_len_l, PI.t_int, PI.t_intb, PI.t_isi, PI.t_max2, PI.t_min2, List.map_cons, List.map_nil, List.append_nil, List.nil_append, List.cons_append, List.length_cons, List.length_nil, List.replicate_zero, List.replicate_succ, if_true, if_false, Bool.true_and, Bool.and_true, Bool.not_true, Bool.not_false, decide_true, decide_false, asgs, PI.q_if, reduceIte, reduceCtorEq, id_eq, Option.map_some, PI.rq_ite, toInt, Nat.reduceSub, Nat.reduceAdd, Int.reduceLE, Int.reduceLT, Int.reduceNeg, Nat.reduceLT, Nat.reduceLeDiff, Int.reduceEq, decide_eq_true_eq, and_true, true_and, Bool.false_eq_true, and_self, rq_rng (rng_0 (show n ≤ 2000 by omega))]
    refine take_comp (k := k + 2) (m := 2 * m + 1) (w := m) hb3 (by omega) (Nat.lt_of_le_of_lt (bits_le 10 (by omega)) (by decide)) n3 (fun d S' Q q => ?_) ?_
    · rw [elt_eq]
      simp only [PI.w_loc, PI.w_cst, PI.w_gfn, PI.w_bin, PI.w_neg, PI.w_inv, PI.w_not, PI.w_cmp, PI.w_chn, PI.w_and, PI.w_or, PI.w_iteE, PI.w_tup, PI.w_lst, PI.w_idx, PI.w_slL, PI.w_slU, PI.w_slLU, PI.w_rev, PI.w_call, PI.w_bi, PI.w_me, PI.w_comp, PI.w_nilS, PI.w_consS, PI.w_nilT, PI.w_consT, PI.w_iex, PI.w_irng, PI.w_ienm, PI.w_izp, PI.w_irv, PI.v_nil, PI.v_cons, PI.v_pass, PI.v_brk, PI.v_cnt, PI.v_never, PI.v_set, PI.v_asg, PI.asg_tp, PI.v_aug, PI.v_seti, PI.v_ex, PI.v_ret, PI.v_retN, PI.v_ite, PI.v_whl, PI.v_for, PI.body_eq, PI.rq_ret, PI.rq_opt, PI.rq_ok, PI.rsq_ok, PI.rq_truM, PI.q_nx, PI.q_rt, PI.q_bk, PI.q_ct, List.getElem?_cons_zero, List.getElem?_cons_succ, List.set_cons_zero, List.set_cons_succ, Option.join_some, wipeE, PI.b_add, PI.b_sub, PI.b_mul, PI.b_fdiv, PI.b_mod, PI.b_pow, PI.a_add, PI.a_sub, PI.a_mul, PI.u_int, PI.c_lt, PI.c_le, PI.c_gt, PI.c_ge, PI.c_is, PI.c_isn, PI.tru_bl, PI.tru_int, PI.t_abs, t_len_t, t_len_l, PI.t_int, PI.t_intb, PI.t_isi, PI.t_max2, PI.t_min2, List.map_cons, List.map_nil, List.append_nil, List.nil_append, List.cons_append, List.length_cons, List.length_nil, List.replicate_zero, List.replicate_succ, if_true, if_false, Bool.true_and, Bool.and_true, Bool.not_true, Bool.not_false, decide_true, decide_false, asgs, PI.q_if, reduceIte, reduceCtorEq, id_eq, Option.map_some, PI.rq_ite, toInt, Nat.reduceSub, Nat.reduceAdd, Int.reduceLE, Int.reduceLT, Int.reduceNeg, Nat.reduceLT, Nat.reduceLeDiff, Int.reduceEq, decide_eq_true_eq, and_true, true_and, Bool.false_eq_true, and_self]
      exact ⟨mul_l (by decide), q⟩
    intro l S4 hl hc m4
    rw [newL_t (ilim (by rw [List.length_map]; omega))]
    simp only [PI.w_loc, PI.w_cst, PI.w_gfn, PI.w_bin, PI.w_neg, PI.w_inv, PI.w_not, PI.w_cmp, PI.w_chn, PI.w_and, PI.w_or, PI.w_iteE, PI.w_tup, PI.w_lst, PI.w_idx, PI.w_slL, PI.w_slU, PI.w_slLU, PI.w_rev, PI.w_call, PI.w_bi, PI.w_me, PI.w_comp, PI.w_nilS, PI.w_consS, PI.w_nilT, PI.w_consT, PI.w_iex, PI.w_irng, PI.w_ienm, PI.w_izp, PI.w_irv, PI.v_nil, PI.v_cons, PI.v_pass, PI.v_brk, PI.v_cnt, PI.v_never, PI.v_set, PI.v_asg, PI.asg_tp, PI.v_aug, PI.v_seti, PI.v_ex, PI.v_ret, PI.v_retN, PI.v_ite, PI.v_whl, PI.v_for, PI.body_eq, PI.rq_ret, PI.rq_opt, PI.rq_ok, PI.rsq_ok, PI.rq_truM, PI.q_nx, PI.q_rt, PI.q_bk, PI.q_ct, List.getElem?_cons_zero, List.getElem?_cons_succ, List.set_cons_zero, List.set_cons_succ, Option.join_some, wipeE, PI.b_add, PI.b_sub, PI.b_mul, PI.b_fdiv, PI.b_mod, PI.b_pow, PI.a_add, PI.a_sub, PI.a_mul, PI.u_int, PI.c_lt, PI.c_le, PI.c_gt, PI.c_ge, PI.c_is, PI.c_isn, PI.tru_bl, PI.tru_int, PI.t_abs, t_len_t, t_len_l, PI.t_int, PI.t_intb, PI.t_isi, PI.t_max2, PI.t_min2, List.map_cons, List.map_nil, List.append_nil, List.nil_append, List.cons_append, List.length_cons, List.length_nil, List.replicate_zero, List.replicate_succ, if_true, if_false, Bool.true_and, Bool.and_true, Bool.not_true, Bool.not_false, decide_true, decide_false, asgs, PI.q_if, reduceIte, reduceCtorEq, id_eq, Option.map_some, PI.rq_ite, toInt, Nat.reduceSub, Nat.reduceAdd, Int.reduceLE, Int.reduceLT, Int.reduceNeg, Nat.reduceLT, Nat.reduceLeDiff, Int.reduceEq, decide_eq_true_eq, and_true, true_and, Bool.false_eq_true, and_self, c_eq]
    have hcs : ∀ x ∈ l, okc x := fun x hx => ⟨by have := (hc x hx).1; omega, by have := (hc x hx).2; omega⟩
    have fin : ∀ (c : Int) (S5 : Sto), Mv b S4 S5 → okl c → (n = 1 → 2 ≤ c ∨ c ≤ -2) → Dr b S (.tup ((l ++ [c]).map D.int)) S5 := fun c S5 m5 ok o1 => ⟨_, rfl, LP.mk (by omega) (by omega) hcs ok (fun h => o1 (by omega)), (m3.trans m4).trans m5⟩
    split
    · rename_i hn1
      rw [newL_t (ilim (Nat.le_of_ble_eq_true rfl))]
      refine (c_pick (k := k + 1) m4.1 (by simp) (by decide)).mono ?_
      rintro d S5 ⟨hd, hb5, o5, e5⟩
      have m5 := mv_of hb5 e5
      obtain ⟨c, hdc, hok, hc2⟩ := pick_a hd
      clear hd
      subst hdc
      rw [newL_t (lim1 (.int c))]
      exact fin_leap (S0 := S) (b := b) (by omega) (fin c S5 m5 hok fun _ => hc2)
    · rename_i hn1
      rw [newL_t (ilim (Nat.le_of_ble_eq_true rfl))]
      refine (c_pick (k := k + 1) m4.1 (by simp) (by decide)).mono ?_
      rintro d S5 ⟨hd, hb5, o5, e5⟩
      have m5 := mv_of hb5 e5
      obtain ⟨c, hdc, hok⟩ := pick_b hd
      clear hd
      subst hdc
      rw [newL_t (lim1 (.int c))]
      refine fin_leap (S0 := S) (b := b) (by omega) (fin c S5 m5 hok fun h => ?_)
      exfalso
      apply hn1
      rw [List.length_map, hl, h]
      rfl
end
end Lw

/-! k14: the law -/
namespace Lw
open PySem PySem.Spec PyProof.Rows L2 PI
section
variable {F k : Nat} {S : Sto}
theorem told_ok {r : List Int} {y : Int} {a0 a1 a2 a4 a5 a7 a8 a9 : Option D} {Q : D → Sto → Prop} (h : LP r) (hy : wh r + 2 ≤ y) (hy2 : y < 2 ^ 105) (hq : Q (.tup [.int (sgI (sgB r false)), .int (sgI (sgB r true))]) S) :
    RQ (ev (CK F (k + 1)) (.tup (.cons (.ite (.cmp .gt (.call 17 (.cons (.loc 3) (.cons (.bin .sub (.cst (.int 0)) (.loc 6)) .nil)) .nil []) (.cst (.int 0))) (.cst (.int 1)) (.neg (.cst (.int 1)))) (.cons (.ite (.cmp .gt (.call 17 (.cons (.loc 3) (.cons (.loc 6) .nil)) .nil []) (.cst (.int 0))) (.cst (.int 1)) (.neg (.cst (.int 1)))) .nil)))
      [a0, a1, a2, some (.tup (r.map D.int)), a4, a5, some (.int y), a7, a8, a9] S) Q := by
  have w := (wh_bd h).1
  have e1 : CK F (k + 1) 17 [] [.tup (r.map D.int), .int (0 - y)] S = .ok (.int (hn r (0 - y))) S := c_lworth h (by omega)
  have e2 : CK F (k + 1) 17 [] [.tup (r.map D.int), .int y] S = .ok (.int (hn r y)) S := c_lworth h (by omega)
  have f1 : decide (0 < hn r (0 - y)) = sgB r false := far_sg h hy false
  have f2 : decide (0 < hn r y) = sgB r true := far_sg h hy true
  rw [← f1, ← f2] at hq
  have l2 : ∀ a b : D, ([a, b] : List D).length ≤ lim := fun a b => ilim (by simp only [List.length_cons, List.length_nil]; omega)
  by_cases g1 : 0 < hn r (0 - y) <;> by_cases g2 : 0 < hn r y
  · rw [decide_eq_true g1, decide_eq_true g2] at hq
    simp only [PI.w_loc, PI.w_cst, PI.w_gfn, PI.w_bin, PI.w_neg, PI.w_inv, PI.w_not, PI.w_cmp, PI.w_chn, PI.w_and, PI.w_or, PI.w_iteE, PI.w_tup, PI.w_lst, PI.w_idx, PI.w_slL, PI.w_slU, PI.w_slLU, PI.w_rev, PI.w_call, PI.w_bi, PI.w_me, PI.w_comp, PI.w_nilS, PI.w_consS, PI.w_nilT, PI.w_consT, PI.w_iex, PI.w_irng, PI.w_ienm, PI.w_izp, PI.w_irv, PI.v_nil, PI.v_cons, PI.v_pass, PI.v_brk, PI.v_cnt, PI.v_never, PI.v_set, PI.v_asg, PI.asg_tp, PI.v_aug, PI.v_seti, PI.v_ex, PI.v_ret, PI.v_retN, PI.v_ite, PI.v_whl, PI.v_for, PI.body_eq, PI.rq_ret, PI.rq_opt, PI.rq_ok, PI.rsq_ok, PI.rq_truM, PI.q_nx, PI.q_rt, PI.q_bk, PI.q_ct, List.getElem?_cons_zero, List.getElem?_cons_succ, List.set_cons_zero, List.set_cons_succ, Option.join_some, wipeE, PI.b_add, PI.b_sub, PI.b_mul, PI.b_fdiv, PI.b_mod, PI.b_pow, PI.a_add, PI.a_sub, PI.a_mul, PI.u_int, PI.c_lt, PI.c_le, PI.c_gt, PI.c_ge, PI.c_is, PI.c_isn, PI.tru_bl, PI.tru_int, PI.t_abs, t_len_t, t_len_l, PI.t_int, PI.t_intb, PI.t_isi, PI.t_max2, PI.t_min2, List.map_cons, List.map_nil, List.append_nil, List.nil_append, List.cons_append, List.length_cons, List.length_nil, List.replicate_zero, List.replicate_succ, if_true, if_false, Bool.true_and, Bool.and_true, Bool.not_true, Bool.not_false, decide_true, decide_false, asgs, PI.q_if, reduceIte, reduceCtorEq, id_eq, Option.map_some, PI.rq_ite, toInt, Nat.reduceSub, Nat.reduceAdd, Int.reduceLE, Int.reduceLT, Int.reduceNeg, Nat.reduceLT, Nat.reduceLeDiff, Int.reduceEq, decide_eq_true_eq, and_true, true_and, Bool.false_eq_true, and_self, e1, e2, g1, g2, lim_val]
    exact hq
  · rw [decide_eq_true g1, decide_eq_false g2] at hq
    simp only [PI.w_loc, PI.w_cst, PI.w_gfn, PI.w_bin, PI.w_neg, PI.w_inv, PI.w_not, PI.w_cmp, PI.w_chn, PI.w_and, PI.w_or, PI.w_iteE, PI.w_tup, PI.w_lst, PI.w_idx, PI.w_slL, PI.w_slU, PI.w_slLU, PI.w_rev, PI.w_call, PI.w_bi, PI.w_me, PI.w_comp, PI.w_nilS, PI.w_consS, PI.w_nilT, PI.w_consT, PI.w_iex, PI.w_irng, PI.w_ienm, PI.w_izp, PI.w_irv, PI.v_nil, PI.v_cons, PI.v_pass, PI.v_brk, PI.v_cnt, PI.v_never, PI.v_set, PI.v_asg, PI.asg_tp, PI.v_aug, PI.v_seti, PI.v_ex, PI.v_ret, PI.v_retN, PI.v_ite, PI.v_whl, PI.v_for, PI.body_eq, PI.rq_ret, PI.rq_opt, PI.rq_ok, PI.rsq_ok, PI.rq_truM, PI.q_nx, PI.q_rt, PI.q_bk, PI.q_ct, List.getElem?_cons_zero, List.getElem?_cons_succ, List.set_cons_zero, List.set_cons_succ, Option.join_some, wipeE, PI.b_add, PI.b_sub, PI.b_mul, PI.b_fdiv, PI.b_mod, PI.b_pow, PI.a_add, PI.a_sub, PI.a_mul, PI.u_int, PI.c_lt, PI.c_le, PI.c_gt, PI.c_ge, PI.c_is, PI.c_isn, PI.tru_bl, PI.tru_int, PI.t_abs, t_len_t, t_len_l, PI.t_int, PI.t_intb, PI.t_isi, PI.t_max2, PI.t_min2, List.map_cons, List.map_nil, List.append_nil, List.nil_append, List.cons_append, List.length_cons, List.length_nil, List.replicate_zero, List.replicate_succ, if_true, if_false, Bool.true_and, Bool.and_true, Bool.not_true, Bool.not_false, decide_true, decide_false, asgs, PI.q_if, reduceIte, reduceCtorEq, id_eq, Option.map_some, PI.rq_ite, toInt, Nat.reduceSub, Nat.reduceAdd, Int.reduceLE, Int.reduceLT, Int.reduceNeg, Nat.reduceLT, Nat.reduceLeDiff, Int.reduceEq, decide_eq_true_eq, and_true, true_and, Bool.false_eq_true, and_self, e1, e2, g1, g2, lim_val]
    exact hq
  · rw [decide_eq_false g1, decide_eq_true g2] at hq
    simp only [PI.w_loc, PI.w_cst, PI.w_gfn, PI.w_bin, PI.w_neg, PI.w_inv, PI.w_not, PI.w_cmp, PI.w_chn, PI.w_and, PI.w_or, PI.w_iteE, PI.w_tup, PI.w_lst, PI.w_idx, PI.w_slL, PI.w_slU, PI.w_slLU, PI.w_rev, PI.w_call, PI.w_bi, PI.w_me, PI.w_comp, PI.w_nilS, PI.w_consS, PI.w_nilT, PI.w_consT, PI.w_iex, PI.w_irng, PI.w_ienm, PI.w_izp, PI.w_irv, PI.v_nil, PI.v_cons, PI.v_pass, PI.v_brk, PI.v_cnt, PI.v_never, PI.v_set, PI.v_asg, PI.asg_tp, PI.v_aug, PI.v_seti, PI.v_ex, PI.v_ret, PI.v_retN, PI.v_ite, PI.v_whl, PI.v_for, PI.body_eq, PI.rq_ret, PI.rq_opt, PI.rq_ok, PI.rsq_ok, PI.rq_truM, PI.q_nx, PI.q_rt, PI.q_bk, PI.q_ct, List.getElem?_cons_zero, List.getElem?_cons_succ, List.set_cons_zero, List.set_cons_succ, Option.join_some, wipeE, PI.b_add, PI.b_sub, PI.b_mul, PI.b_fdiv, PI.b_mod, PI.b_pow, PI.a_add, PI.a_sub, PI.a_mul, PI.u_int, PI.c_lt, PI.c_le, PI.c_gt, PI.c_ge, PI.c_is, PI.c_isn, PI.tru_bl, PI.tru_int, PI.t_abs, t_len_t, t_len_l, PI.t_int, PI.t_intb, PI.t_isi, PI.t_max2, PI.t_min2, List.map_cons, List.map_nil, List.append_nil, List.nil_append, List.cons_append, List.length_cons, List.length_nil, List.replicate_zero, List.replicate_succ, if_true, if_false, Bool.true_and, Bool.and_true, Bool.not_true, Bool.not_false, decide_true, decide_false, asgs, PI.q_if, reduceIte, reduceCtorEq, id_eq, Option.map_some, PI.rq_ite, toInt, Nat.reduceSub, Nat.reduceAdd, Int.reduceLE, Int.reduceLT, Int.reduceNeg, Nat.reduceLT, Nat.reduceLeDiff, Int.reduceEq, decide_eq_true_eq, and_true, true_and, Bool.false_eq_true, and_self, e1, e2, g1, g2, lim_val]
    exact hq
  · rw [decide_eq_false g1, decide_eq_false g2] at hq
    simp only [PI.w_loc, PI.w_cst, PI.w_gfn, PI.w_bin, PI.w_neg, PI.w_inv, PI.w_not, PI.w_cmp, PI.w_chn, PI.w_and, PI.w_or, PI.w_iteE, PI.w_tup, PI.w_lst, PI.w_idx, PI.w_slL, PI.w_slU, PI.w_slLU, PI.w_rev, PI.w_call, PI.w_bi, PI.w_me, PI.w_comp, PI.w_nilS, PI.w_consS, PI.w_nilT, PI.w_consT, PI.w_iex, PI.w_irng, PI.w_ienm, PI.w_izp, PI.w_irv, PI.v_nil, PI.v_cons, PI.v_pass, PI.v_brk, PI.v_cnt, PI.v_never, PI.v_set, PI.v_asg, PI.asg_tp, PI.v_aug, PI.v_seti, PI.v_ex, PI.v_ret, PI.v_retN, PI.v_ite, PI.v_whl, PI.v_for, PI.body_eq, PI.rq_ret, PI.rq_opt, PI.rq_ok, PI.rsq_ok, PI.rq_truM, PI.q_nx, PI.q_rt, PI.q_bk, PI.q_ct, List.getElem?_cons_zero, List.getElem?_cons_succ, List.set_cons_zero, List.set_cons_succ, Option.join_some, wipeE, PI.b_add, PI.b_sub, PI.b_mul, PI.b_fdiv, PI.b_mod, PI.b_pow, PI.a_add, PI.a_sub, PI.a_mul, PI.u_int, PI.c_lt, PI.c_le, PI.c_gt, PI.c_ge, PI.c_is, PI.c_isn, PI.tru_bl, PI.tru_int, PI.t_abs, t_len_t, t_len_l, PI.t_int, PI.t_intb, PI.t_isi, PI.t_max2, PI.t_min2, List.map_cons, List.map_nil, List.append_nil, List.nil_append, List.cons_append, List.length_cons, List.length_nil, List.replicate_zero, List.replicate_succ, if_true, if_false, Bool.true_and, Bool.and_true, Bool.not_true, Bool.not_false, decide_true, decide_false, asgs, PI.q_if, reduceIte, reduceCtorEq, id_eq, Option.map_some, PI.rq_ite, toInt, Nat.reduceSub, Nat.reduceAdd, Int.reduceLE, Int.reduceLT, Int.reduceNeg, Nat.reduceLT, Nat.reduceLeDiff, Int.reduceEq, decide_eq_true_eq, and_true, true_and, Bool.false_eq_true, and_self, e1, e2, g1, g2, lim_val]
    exact hq
theorem c_is {d : D} (h : tp 3 d = true) : CK F (k + 4) 16 [] [d, d] S = .ok (.bl true) S := by
  have hC : ∀ (k : Nat) (S : Sto) (args : List D), args.length = 2 → CK F (k + 1) 16 [] args S = runFn (CK F k) F (fIs 16) args S := by
    intro k S args ha
    match args, ha with
    | [a, b], _ => rfl
  exact is_ok (C := fun k => CK F k) (F := F) (fi := 16) hC 3 d k S h
theorem c_box {ns : List Int} (hn : ns.length ≤ 63) : RQ (CK F (k + 1) 13 [] [.scr ns, .int 14] []) (fun d S' => d = .ref 1 ∧ S'.length = 2 ∧ Bx S' 1) := by
  show RQ (runFn (CK F k) F f13 [.scr ns, .int 14] []) _
  exact box_ok hn
/-- one number -/
theorem num_ok {r : List Int} {y : Int} {bx : Bool} {a0 a1 a2 a5 a6 a7 a9 : Option D} {Q : Fl → PI.Env → Sto → Prop} (h : LP r) (hy : wh r + 2 ≤ y) (hy2 : y < 2 ^ 105)
    (hq : Q .nx [a0, a1, a2, some (.tup (r.map D.int)), some (.int (wh r)), a5, a6, a7, some (.int (sx bx y)), a9] S) :
    RSQ ((bodyF (CK F (k + 5)) F (.cons (.ite (.cmp .lt (.bi .abs (.cons (.call 8 (.cons (.loc 3) (.cons (.loc 8) .nil)) .nil []) .nil)) (.bin .sub (.bin .mul (.cst (.int 2)) (.bi .abs (.cons (.loc 8) .nil))) (.loc 4))) (.cons (.ret (.cst (.bl false))) .nil) .nil) .nil))
      [a0, a1, a2, some (.tup (r.map D.int)), some (.int (wh r)), a5, a6, a7, some (.int (sx bx y)), a9] S) Q := by
  have w := (wh_bd h).1
  have hx : (sx bx y).natAbs < 2 ^ 110 := by
    cases bx
    · show (0 - y).natAbs < 2 ^ 110; omega
    · show y.natAbs < 2 ^ 110; omega
  have e1 : CK F (k + 5) 8 [] [.tup (r.map D.int), .int (sx bx y)] S = .ok (.int (hn r (sx bx y))) S := c_value h hx
  rw [body_eq]
  simp only [PI.w_loc, PI.w_cst, PI.w_gfn, PI.w_bin, PI.w_neg, PI.w_inv, PI.w_not, PI.w_cmp, PI.w_chn, PI.w_and, PI.w_or, PI.w_iteE, PI.w_tup, PI.w_lst, PI.w_idx, PI.w_slL, PI.w_slU, PI.w_slLU, PI.w_rev, PI.w_call, PI.w_bi, PI.w_me, PI.w_comp, PI.w_nilS, PI.w_consS, PI.w_nilT, PI.w_consT, PI.w_iex, PI.w_irng, PI.w_ienm, PI.w_izp, PI.w_irv, PI.v_nil, PI.v_cons, PI.v_pass, PI.v_brk, PI.v_cnt, PI.v_never, PI.v_set, PI.v_asg, PI.asg_tp, PI.v_aug, PI.v_seti, PI.v_ex, PI.v_ret, PI.v_retN, PI.v_ite, PI.v_whl, PI.v_for, PI.body_eq, PI.rq_ret, PI.rq_opt, PI.rq_ok, PI.rsq_ok, PI.rq_truM, PI.q_nx, PI.q_rt, PI.q_bk, PI.q_ct, List.getElem?_cons_zero, List.getElem?_cons_succ, List.set_cons_zero, List.set_cons_succ, Option.join_some, wipeE, PI.b_add, PI.b_sub, PI.b_mul, PI.b_fdiv, PI.b_mod, PI.b_pow, PI.a_add, PI.a_sub, PI.a_mul, PI.u_int, PI.c_lt, PI.c_le, PI.c_gt, PI.c_ge, PI.c_is, PI.c_isn, PI.tru_bl, PI.tru_int, PI.t_abs, t_len_t, t_len_l, PI.t_int, PI.t_intb, PI.t_isi, PI.t_max2, PI.t_min2, List.map_cons, List.map_nil, List.append_nil, List.nil_append, List.cons_append, List.length_cons, List.length_nil, List.replicate_zero, List.replicate_succ, if_true, if_false, Bool.true_and, Bool.and_true, Bool.not_true, Bool.not_false, decide_true, decide_false, asgs, PI.q_if, reduceIte, reduceCtorEq, id_eq, Option.map_some, PI.rq_ite, toInt, Nat.reduceSub, Nat.reduceAdd, Int.reduceLE, Int.reduceLT, Int.reduceNeg, Nat.reduceLT, Nat.reduceLeDiff, Int.reduceEq, decide_eq_true_eq, and_true, true_and, Bool.false_eq_true, and_self, e1]
  refine ⟨mul_l (by decide), ?_⟩
  rw [if_neg (far_ab h hy bx)]
  exact hq
end
end Lw

/-! k14: the law's run -/
namespace Lw
open PySem PySem.Spec PyProof.Rows L2 PI
theorem lp_a : LP [3, 0, 1] := .inr (.inl ⟨3, 0, 1, rfl, ⟨by decide, by decide⟩, ⟨by decide, by decide⟩, ⟨by decide, by decide, by decide⟩⟩)
theorem lp_b : LP [1, 2] := .inl ⟨1, 2, rfl, ⟨by decide, by decide⟩, ⟨by decide, by decide, by decide⟩, .inl (by decide)⟩
theorem lp_c : LP [-3, 0, 1] := .inr (.inl ⟨-3, 0, 1, rfl, ⟨by decide, by decide⟩, ⟨by decide, by decide⟩, ⟨by decide, by decide, by decide⟩⟩)
theorem lp_d : LP [0, 2] := .inl ⟨0, 2, rfl, ⟨by decide, by decide⟩, ⟨by decide, by decide, by decide⟩, .inl (by decide)⟩
theorem lp_e : LP [5, 2] := .inl ⟨5, 2, rfl, ⟨by decide, by decide⟩, ⟨by decide, by decide, by decide⟩, .inl (by decide)⟩
theorem lp_f : LP [0, 0, 0, -1] := .inr (.inr ⟨0, 0, 0, -1, rfl, ⟨by decide, by decide⟩, ⟨by decide, by decide⟩, ⟨by decide, by decide⟩, ⟨by decide, by decide, by decide⟩⟩)
theorem pick_30 {d : D} (h : d ∈ [D.int 1, D.int 5, D.int 1000, D.int (10 ^ Int.toNat 30)]) : ∃ m : Int, d = .int m ∧ 0 < m ∧ m ≤ 10 ^ 30 := by
  simp only [List.mem_cons, List.not_mem_nil, or_false] at h
  rcases h with rfl | rfl | rfl | rfl
  · exact ⟨1, rfl, by decide, by decide +kernel⟩
  · exact ⟨5, rfl, by decide, by decide +kernel⟩
  · exact ⟨1000, rfl, by decide, by decide +kernel⟩
  · exact ⟨10 ^ 30, rfl, by decide +kernel, by decide +kernel⟩
theorem main0 {ns : List Int} (h : ns.length ≤ 63) : RQ (runFn (CK 5000 12) 5000 f21 [.scr ns] []) (fun d _ => d = .bl true) := by
  rw [rq_fn]
  unfold f21 b21
  simp only [PI.w_loc, PI.w_cst, PI.w_gfn, PI.w_bin, PI.w_neg, PI.w_inv, PI.w_not, PI.w_cmp, PI.w_chn, PI.w_and, PI.w_or, PI.w_iteE, PI.w_tup, PI.w_lst, PI.w_idx, PI.w_slL, PI.w_slU, PI.w_slLU, PI.w_rev, PI.w_call, PI.w_bi, PI.w_me, PI.w_comp, PI.w_nilS, PI.w_consS, PI.w_nilT, PI.w_consT, PI.w_iex, PI.w_irng, PI.w_ienm, PI.w_izp, PI.w_irv, PI.v_nil, PI.v_cons, PI.v_pass, PI.v_brk, PI.v_cnt, PI.v_never, PI.v_set, PI.v_asg, PI.asg_tp, PI.v_aug, PI.v_seti, PI.v_ex, PI.v_ret, PI.v_retN, PI.v_ite, PI.v_whl, PI.v_for, PI.rq_ret, PI.rq_opt, PI.rq_ok, PI.rsq_ok, PI.rq_truM, PI.q_nx, PI.q_rt, PI.q_bk, PI.q_ct, List.getElem?_cons_zero, List.getElem?_cons_succ, List.set_cons_zero, List.set_cons_succ, Option.join_some, wipeE, PI.b_add, PI.b_sub, PI.b_mul, PI.b_fdiv, PI.b_mod, PI.b_pow, PI.a_add, PI.a_sub, PI.a_mul, PI.u_int, PI.c_lt, PI.c_le, PI.c_gt, PI.c_ge, PI.c_is, PI.c_isn, PI.tru_bl, PI.tru_int, PI.t_abs, t_len_t, t_len_l, PI.t_int, PI.t_intb, PI.t_isi, PI.t_max2, PI.t_min2, List.map_cons, List.map_nil, List.append_nil, List.nil_append, List.cons_append, List.length_cons, List.length_nil, List.replicate_zero, List.replicate_succ, if_true, if_false, Bool.true_and, Bool.and_true, Bool.not_true, Bool.not_false, decide_true, decide_false, asgs, PI.q_if, reduceIte, reduceCtorEq, id_eq, Option.map_some, PI.rq_ite, toInt, Nat.reduceSub, Nat.reduceAdd, Int.reduceLE, Int.reduceLT, Int.reduceNeg, Nat.reduceLT, Nat.reduceLeDiff, Int.reduceEq, decide_eq_true_eq, and_true, true_and, Bool.false_eq_true, and_self]
  refine (c_box (k := 11) h).mono ?_
  rintro _ S1 ⟨rfl, hl1, hb1⟩
  rw [body_eq]
  have e10 : rng [.int 10] = some (rngL 0 10) := rng_0 (n := 10) (by decide)
  simp only [PI.w_loc, PI.w_cst, PI.w_gfn, PI.w_bin, PI.w_neg, PI.w_inv, PI.w_not, PI.w_cmp, PI.w_chn, PI.w_and, PI.w_or, PI.w_iteE, PI.w_tup, PI.w_lst, PI.w_idx, PI.w_slL, PI.w_slU, PI.w_slLU, PI.w_rev, PI.w_call, PI.w_bi, PI.w_me, PI.w_comp, PI.w_nilS, PI.w_consS, PI.w_nilT, PI.w_consT, PI.w_iex, PI.w_irng, PI.w_ienm, PI.w_izp, PI.w_irv, PI.v_nil, PI.v_cons, PI.v_pass, PI.v_brk, PI.v_cnt, PI.v_never, PI.v_set, PI.v_asg, PI.asg_tp, PI.v_aug, PI.v_seti, PI.v_ex, PI.v_ret, PI.v_retN, PI.v_ite, PI.v_whl, PI.v_for, PI.rq_ret, PI.rq_opt, PI.rq_ok, PI.rsq_ok, PI.rq_truM, PI.q_nx, PI.q_rt, PI.q_bk, PI.q_ct, List.getElem?_cons_zero, List.getElem?_cons_succ, List.set_cons_zero, List.set_cons_succ, Option.join_some, wipeE, PI.b_add, PI.b_sub, PI.b_mul, PI.b_fdiv, PI.b_mod, PI.b_pow, PI.a_add, PI.a_sub, PI.a_mul, PI.u_int, PI.c_lt, PI.c_le, PI.c_gt, PI.c_ge, PI.c_is, PI.c_isn, PI.tru_bl, PI.tru_int, PI.t_abs, t_len_t, t_len_l, PI.t_int, PI.t_intb, PI.t_isi, PI.t_max2, PI.t_min2, List.map_cons, List.map_nil, List.append_nil, List.nil_append, List.cons_append, List.length_cons, List.length_nil, List.replicate_zero, List.replicate_succ, if_true, if_false, Bool.true_and, Bool.and_true, Bool.not_true, Bool.not_false, decide_true, decide_false, asgs, PI.q_if, reduceIte, reduceCtorEq, id_eq, Option.map_some, PI.rq_ite, toInt, Nat.reduceSub, Nat.reduceAdd, Int.reduceLE, Int.reduceLT, Int.reduceNeg, Nat.reduceLT, Nat.reduceLeDiff, Int.reduceEq, decide_eq_true_eq, and_true, true_and, Bool.false_eq_true, and_self, rq_rng e10]
  refine rsq_for (fun i ρ S => Bx S 1 ∧ ∃ x2 x3 x4 x5 x6 x7 x8 x9, ρ = [some (.scr ns), some (.ref 1), x2, x3, x4, x5, x6, x7, x8, x9]) ⟨hb1, _, _, _, _, _, _, _, _, rfl⟩ ?_ ?_
  · rintro i d ρ S hd ⟨hb, x2, x3, x4, x5, x6, x7, x8, x9, rfl⟩
    refine ⟨_, rfl, ?_⟩
    rw [body_eq]
    simp only [PI.w_loc, PI.w_cst, PI.w_gfn, PI.w_bin, PI.w_neg, PI.w_inv, PI.w_not, PI.w_cmp, PI.w_chn, PI.w_and, PI.w_or, PI.w_iteE, PI.w_tup, PI.w_lst, PI.w_idx, PI.w_slL, PI.w_slU, PI.w_slLU, PI.w_rev, PI.w_call, PI.w_bi, PI.w_me, PI.w_comp, PI.w_nilS, PI.w_consS, PI.w_nilT, PI.w_consT, PI.w_iex, PI.w_irng, PI.w_ienm, PI.w_izp, PI.w_irv, PI.v_nil, PI.v_cons, PI.v_pass, PI.v_brk, PI.v_cnt, PI.v_never, PI.v_set, PI.v_asg, PI.asg_tp, PI.v_aug, PI.v_seti, PI.v_ex, PI.v_ret, PI.v_retN, PI.v_ite, PI.v_whl, PI.v_for, PI.rq_ret, PI.rq_opt, PI.rq_ok, PI.rsq_ok, PI.rq_truM, PI.q_nx, PI.q_rt, PI.q_bk, PI.q_ct, List.getElem?_cons_zero, List.getElem?_cons_succ, List.set_cons_zero, List.set_cons_succ, Option.join_some, wipeE, PI.b_add, PI.b_sub, PI.b_mul, PI.b_fdiv, PI.b_mod, PI.b_pow, PI.a_add, PI.a_sub, PI.a_mul, PI.u_int, PI.c_lt, PI.c_le, PI.c_gt, PI.c_ge, PI.c_is, PI.c_isn, PI.tru_bl, PI.tru_int, PI.t_abs, t_len_t, t_len_l, PI.t_int, PI.t_intb, PI.t_isi, PI.t_max2, PI.t_min2, List.map_cons, List.map_nil, List.append_nil, List.nil_append, List.cons_append, List.length_cons, List.length_nil, List.replicate_zero, List.replicate_succ, if_true, if_false, Bool.true_and, Bool.and_true, Bool.not_true, Bool.not_false, decide_true, decide_false, asgs, PI.q_if, reduceIte, reduceCtorEq, id_eq, Option.map_some, PI.rq_ite, toInt, Nat.reduceSub, Nat.reduceAdd, Int.reduceLE, Int.reduceLT, Int.reduceNeg, Nat.reduceLT, Nat.reduceLeDiff, Int.reduceEq, decide_eq_true_eq, and_true, true_and, Bool.false_eq_true, and_self]
    refine (c_drawn (k := 8) hb).mono ?_
    rintro _ S2 ⟨r, rfl, hr, m2⟩
    rw [body_eq]
    obtain ⟨w0, w9⟩ := wh_bd hr
    obtain ⟨lc, c1, c2, c3⟩ := hr.cut
    simp only [PI.w_loc, PI.w_cst, PI.w_gfn, PI.w_bin, PI.w_neg, PI.w_inv, PI.w_not, PI.w_cmp, PI.w_chn, PI.w_and, PI.w_or, PI.w_iteE, PI.w_tup, PI.w_lst, PI.w_idx, PI.w_slL, PI.w_slU, PI.w_slLU, PI.w_rev, PI.w_call, PI.w_bi, PI.w_me, PI.w_comp, PI.w_nilS, PI.w_consS, PI.w_nilT, PI.w_consT, PI.w_iex, PI.w_irng, PI.w_ienm, PI.w_izp, PI.w_irv, PI.v_nil, PI.v_cons, PI.v_pass, PI.v_brk, PI.v_cnt, PI.v_never, PI.v_set, PI.v_asg, PI.asg_tp, PI.v_aug, PI.v_seti, PI.v_ex, PI.v_ret, PI.v_retN, PI.v_ite, PI.v_whl, PI.v_for, PI.rq_ret, PI.rq_opt, PI.rq_ok, PI.rsq_ok, PI.rq_truM, PI.q_nx, PI.q_rt, PI.q_bk, PI.q_ct, List.getElem?_cons_zero, List.getElem?_cons_succ, List.set_cons_zero, List.set_cons_succ, Option.join_some, wipeE, PI.b_add, PI.b_sub, PI.b_mul, PI.b_fdiv, PI.b_mod, PI.b_pow, PI.a_add, PI.a_sub, PI.a_mul, PI.u_int, PI.c_lt, PI.c_le, PI.c_gt, PI.c_ge, PI.c_is, PI.c_isn, PI.tru_bl, PI.tru_int, PI.t_abs, t_len_t, t_len_l, PI.t_int, PI.t_intb, PI.t_isi, PI.t_max2, PI.t_min2, List.map_cons, List.map_nil, List.append_nil, List.nil_append, List.cons_append, List.length_cons, List.length_nil, List.replicate_zero, List.replicate_succ, if_true, if_false, Bool.true_and, Bool.and_true, Bool.not_true, Bool.not_false, decide_true, decide_false, asgs, PI.q_if, reduceIte, reduceCtorEq, id_eq, Option.map_some, PI.rq_ite, toInt, Nat.reduceSub, Nat.reduceAdd, Int.reduceLE, Int.reduceLT, Int.reduceNeg, Nat.reduceLT, Nat.reduceLeDiff, Int.reduceEq, decide_eq_true_eq, and_true, true_and, Bool.false_eq_true, and_self, items, rq_slcT, c1]
    refine sum_comp (by omega) (Nat.le_of_ble_eq_true rfl) ?_
    rw [newL_t (ilim (by simp only [List.length_map]; omega)), t_sum, c3, body_eq]
    have l2 : ∀ a b : D, ([a, b] : List D).length ≤ lim := fun a b => ilim (by simp only [List.length_cons, List.length_nil]; omega)
    have q1 : ∀ S, CK 5000 12 9 [] [.tup (r.map D.int)] S = .ok (.tup [.int (wh r + 1), .int (wh r)]) S := fun S => c_outward (k := 7) hr
    have q2 : ∀ S, CK 5000 12 9 [0] [.tup (r.map D.int)] S = .ok (.tup [.int (wh r + 1), .int (wh r)]) S := fun S => c_outwardK (k := 7) hr
    have q3 : ∀ S, CK 5000 12 11 [] [.tup (r.map D.int)] S = .ok (.tup [.int (sgI (sgB r false)), .int (sgI (sgB r true))]) S := fun S => by rw [← sgD_eq hr]; exact c_signs (k := 7) hr
    have q4 : ∀ S, CK 5000 12 11 [0] [.tup (r.map D.int)] S = .ok (.tup [.int (sgI (sgB r false)), .int (sgI (sgB r true))]) S := fun S => by rw [← sgD_eq hr]; exact c_signsK (k := 7) hr
    have q5 : ∀ S, CK 5000 12 12 [] [.tup (r.map D.int)] S = .ok (.int (lastG r ((wh r).toNat + 1))) S := fun S => c_out (k := 6) hr (Nat.le_refl _)
    have q6 : ∀ S, CK 5000 12 12 [0] [.tup (r.map D.int)] S = .ok (.int (lastG r ((wh r).toNat + 1))) S := fun S => c_outK (k := 6) hr (Nat.le_refl _)
    have ew : wh r + 1 = (((wh r).toNat + 1 : Nat) : Int) := by omega
    have q7 : ∀ S, CK 5000 12 20 [] [.tup (r.map D.int), .int (wh r + 1)] S = .ok (.int (lastG r ((wh r).toNat + 1))) S := fun S => by rw [ew]; exact c_lout (k := 10) hr (by omega)
    have qi : ∀ (a b c d : Int) S, CK 5000 12 16 [] [.tup [.tup [.int a, .int b], .tup [.int c, .int d]], .tup [.tup [.int a, .int b], .tup [.int c, .int d]]] S = .ok (.bl true) S := fun a b c d S => c_is (k := 8) (by simp [tp, tps])
    have qj : ∀ (a b : Int) S, CK 5000 12 16 [] [.tup [.int a, .int b], .tup [.int a, .int b]] S = .ok (.bl true) S := fun a b S => c_is (k := 8) (by simp [tp, tps])
    have rp : ∀ d : D, repL (Int.toNat 2) [d] = [d, d] := fun d => rfl
    simp only [PI.w_loc, PI.w_cst, PI.w_gfn, PI.w_bin, PI.w_neg, PI.w_inv, PI.w_not, PI.w_cmp, PI.w_chn, PI.w_and, PI.w_or, PI.w_iteE, PI.w_tup, PI.w_lst, PI.w_idx, PI.w_slL, PI.w_slU, PI.w_slLU, PI.w_rev, PI.w_call, PI.w_bi, PI.w_me, PI.w_comp, PI.w_nilS, PI.w_consS, PI.w_nilT, PI.w_consT, PI.w_iex, PI.w_irng, PI.w_ienm, PI.w_izp, PI.w_irv, PI.v_nil, PI.v_cons, PI.v_pass, PI.v_brk, PI.v_cnt, PI.v_never, PI.v_set, PI.v_asg, PI.asg_tp, PI.v_aug, PI.v_seti, PI.v_ex, PI.v_ret, PI.v_retN, PI.v_ite, PI.v_whl, PI.v_for, PI.rq_ret, PI.rq_opt, PI.rq_ok, PI.rsq_ok, PI.rq_truM, PI.q_nx, PI.q_rt, PI.q_bk, PI.q_ct, List.getElem?_cons_zero, List.getElem?_cons_succ, List.set_cons_zero, List.set_cons_succ, Option.join_some, wipeE, PI.b_add, PI.b_sub, PI.b_mul, PI.b_fdiv, PI.b_mod, PI.b_pow, PI.a_add, PI.a_sub, PI.a_mul, PI.u_int, PI.c_lt, PI.c_le, PI.c_gt, PI.c_ge, PI.c_is, PI.c_isn, PI.tru_bl, PI.tru_int, PI.t_abs, t_len_t, t_len_l, PI.t_int, PI.t_intb, PI.t_isi, PI.t_max2, PI.t_min2, List.map_cons, List.map_nil, List.append_nil, List.nil_append, List.cons_append, List.length_cons, List.length_nil, List.replicate_zero, List.replicate_succ, if_true, if_false, Bool.true_and, Bool.and_true, Bool.not_true, Bool.not_false, decide_true, decide_false, asgs, PI.q_if, reduceIte, reduceCtorEq, id_eq, Option.map_some, PI.rq_ite, toInt, Nat.reduceSub, Nat.reduceAdd, Int.reduceLE, Int.reduceLT, Int.reduceNeg, Nat.reduceLT, Nat.reduceLeDiff, Int.reduceEq, decide_eq_true_eq, and_true, true_and, Bool.false_eq_true, and_self, q1, q2, lim_val, b_rep, rp, qi]
    refine ⟨by simp, ?_⟩
    rw [body_eq]
    simp only [PI.w_loc, PI.w_cst, PI.w_gfn, PI.w_bin, PI.w_neg, PI.w_inv, PI.w_not, PI.w_cmp, PI.w_chn, PI.w_and, PI.w_or, PI.w_iteE, PI.w_tup, PI.w_lst, PI.w_idx, PI.w_slL, PI.w_slU, PI.w_slLU, PI.w_rev, PI.w_call, PI.w_bi, PI.w_me, PI.w_comp, PI.w_nilS, PI.w_consS, PI.w_nilT, PI.w_consT, PI.w_iex, PI.w_irng, PI.w_ienm, PI.w_izp, PI.w_irv, PI.v_nil, PI.v_cons, PI.v_pass, PI.v_brk, PI.v_cnt, PI.v_never, PI.v_set, PI.v_asg, PI.asg_tp, PI.v_aug, PI.v_seti, PI.v_ex, PI.v_ret, PI.v_retN, PI.v_ite, PI.v_whl, PI.v_for, PI.rq_ret, PI.rq_opt, PI.rq_ok, PI.rsq_ok, PI.rq_truM, PI.q_nx, PI.q_rt, PI.q_bk, PI.q_ct, List.getElem?_cons_zero, List.getElem?_cons_succ, List.set_cons_zero, List.set_cons_succ, Option.join_some, wipeE, PI.b_add, PI.b_sub, PI.b_mul, PI.b_fdiv, PI.b_mod, PI.b_pow, PI.a_add, PI.a_sub, PI.a_mul, PI.u_int, PI.c_lt, PI.c_le, PI.c_gt, PI.c_ge, PI.c_is, PI.c_isn, PI.tru_bl, PI.tru_int, PI.t_abs, t_len_t, t_len_l, PI.t_int, PI.t_intb, PI.t_isi, PI.t_max2, PI.t_min2, List.map_cons, List.map_nil, List.append_nil, List.nil_append, List.cons_append, List.length_cons, List.length_nil, List.replicate_zero, List.replicate_succ, if_true, if_false, Bool.true_and, Bool.and_true, Bool.not_true, Bool.not_false, decide_true, decide_false, asgs, PI.q_if, reduceIte, reduceCtorEq, id_eq, Option.map_some, PI.rq_ite, toInt, Nat.reduceSub, Nat.reduceAdd, Int.reduceLE, Int.reduceLT, Int.reduceNeg, Nat.reduceLT, Nat.reduceLeDiff, Int.reduceEq, decide_eq_true_eq, and_true, true_and, Bool.false_eq_true, and_self, newL_t]
    refine ⟨by decide +kernel, ?_⟩
    rw [newL_t (ilim (Nat.le_of_ble_eq_true rfl))]
    refine (c_pick (k := 10) m2.1 (by simp) (by simp)).mono ?_
    rintro d3 S3 ⟨hd3, hb3, o3, e3⟩
    obtain ⟨m, hdm, g1, g2⟩ := pick_30 hd3
    clear hd3
    subst hdm
    have e30 : (10 : Int) ^ 30 = 1000000000000000000000000000000 := by decide +kernel
    have hbm : bits m < 9000 := Nat.lt_of_le_of_lt (bits_le 100 (by rw [e30] at g2; omega)) (by decide)
    refine (c_take (k := 11) hb3 g1 hbm).mono ?_
    rintro _ S4 ⟨t, rfl, t1, t2, hb4, o4, e4⟩
    rw [b_add, body_eq]
    generalize hy : wh r + 2 + t = y
    have y1 : wh r + 2 ≤ y := by omega
    have y2 : y < 2 ^ 105 := by rw [e30] at g2; omega
    rw [v_cons, v_set]
    refine told_ok (k := 11) hr y1 y2 ?_
    rw [q_nx, body_eq]
    simp only [PI.w_loc, PI.w_cst, PI.w_gfn, PI.w_bin, PI.w_neg, PI.w_inv, PI.w_not, PI.w_cmp, PI.w_chn, PI.w_and, PI.w_or, PI.w_iteE, PI.w_tup, PI.w_lst, PI.w_idx, PI.w_slL, PI.w_slU, PI.w_slLU, PI.w_rev, PI.w_call, PI.w_bi, PI.w_me, PI.w_comp, PI.w_nilS, PI.w_consS, PI.w_nilT, PI.w_consT, PI.w_iex, PI.w_irng, PI.w_ienm, PI.w_izp, PI.w_irv, PI.v_nil, PI.v_cons, PI.v_pass, PI.v_brk, PI.v_cnt, PI.v_never, PI.v_set, PI.v_asg, PI.asg_tp, PI.v_aug, PI.v_seti, PI.v_ex, PI.v_ret, PI.v_retN, PI.v_ite, PI.v_whl, PI.v_for, PI.rq_ret, PI.rq_opt, PI.rq_ok, PI.rsq_ok, PI.rq_truM, PI.q_nx, PI.q_rt, PI.q_bk, PI.q_ct, List.getElem?_cons_zero, List.getElem?_cons_succ, List.set_cons_zero, List.set_cons_succ, Option.join_some, wipeE, PI.b_add, PI.b_sub, PI.b_mul, PI.b_fdiv, PI.b_mod, PI.b_pow, PI.a_add, PI.a_sub, PI.a_mul, PI.u_int, PI.c_lt, PI.c_le, PI.c_gt, PI.c_ge, PI.c_is, PI.c_isn, PI.tru_bl, PI.tru_int, PI.t_abs, t_len_t, t_len_l, PI.t_int, PI.t_intb, PI.t_isi, PI.t_max2, PI.t_min2, List.map_cons, List.map_nil, List.append_nil, List.nil_append, List.cons_append, List.length_cons, List.length_nil, List.replicate_zero, List.replicate_succ, if_true, if_false, Bool.true_and, Bool.and_true, Bool.not_true, Bool.not_false, decide_true, decide_false, asgs, PI.q_if, reduceIte, reduceCtorEq, id_eq, Option.map_some, PI.rq_ite, toInt, Nat.reduceSub, Nat.reduceAdd, Int.reduceLE, Int.reduceLT, Int.reduceNeg, Nat.reduceLT, Nat.reduceLeDiff, Int.reduceEq, decide_eq_true_eq, and_true, true_and, Bool.false_eq_true, and_self, q3, q4, lim_val, qi]
    rw [body_eq]
    simp only [PI.w_loc, PI.w_cst, PI.w_gfn, PI.w_bin, PI.w_neg, PI.w_inv, PI.w_not, PI.w_cmp, PI.w_chn, PI.w_and, PI.w_or, PI.w_iteE, PI.w_tup, PI.w_lst, PI.w_idx, PI.w_slL, PI.w_slU, PI.w_slLU, PI.w_rev, PI.w_call, PI.w_bi, PI.w_me, PI.w_comp, PI.w_nilS, PI.w_consS, PI.w_nilT, PI.w_consT, PI.w_iex, PI.w_irng, PI.w_ienm, PI.w_izp, PI.w_irv, PI.v_nil, PI.v_cons, PI.v_pass, PI.v_brk, PI.v_cnt, PI.v_never, PI.v_set, PI.v_asg, PI.asg_tp, PI.v_aug, PI.v_seti, PI.v_ex, PI.v_ret, PI.v_retN, PI.v_ite, PI.v_whl, PI.v_for, PI.rq_ret, PI.rq_opt, PI.rq_ok, PI.rsq_ok, PI.rq_truM, PI.q_nx, PI.q_rt, PI.q_bk, PI.q_ct, List.getElem?_cons_zero, List.getElem?_cons_succ, List.set_cons_zero, List.set_cons_succ, Option.join_some, wipeE, PI.b_add, PI.b_sub, PI.b_mul, PI.b_fdiv, PI.b_mod, PI.b_pow, PI.a_add, PI.a_sub, PI.a_mul, PI.u_int, PI.c_lt, PI.c_le, PI.c_gt, PI.c_ge, PI.c_is, PI.c_isn, PI.tru_bl, PI.tru_int, PI.t_abs, t_len_t, t_len_l, PI.t_int, PI.t_intb, PI.t_isi, PI.t_max2, PI.t_min2, List.map_cons, List.map_nil, List.append_nil, List.nil_append, List.cons_append, List.length_cons, List.length_nil, List.replicate_zero, List.replicate_succ, if_true, if_false, Bool.true_and, Bool.and_true, Bool.not_true, Bool.not_false, decide_true, decide_false, asgs, PI.q_if, reduceIte, reduceCtorEq, id_eq, Option.map_some, PI.rq_ite, toInt, Nat.reduceSub, Nat.reduceAdd, Int.reduceLE, Int.reduceLT, Int.reduceNeg, Nat.reduceLT, Nat.reduceLeDiff, Int.reduceEq, decide_eq_true_eq, and_true, true_and, Bool.false_eq_true, and_self, items, lim_val]
    refine rsq_for (fun i ρ S' => S' = S4 ∧ ∃ x8, ρ = [some (.scr ns), some (.ref 1), some d, some (.tup (r.map D.int)), some (.int (wh r)), x5, some (.int y), some (.tup [.int (sgI (sgB r false)), .int (sgI (sgB r true))]), x8, x9]) ⟨rfl, _, rfl⟩ ?_ ?_
    · rintro i' d' ρ S' hd' ⟨rfl, x8', rfl⟩
      have hd' := List.mem_of_getElem? hd'
      have : ∃ bx z, d' = .int (sx bx z) ∧ wh r + 2 ≤ z ∧ z < 2 ^ 105 := by
        simp only [List.mem_cons, List.not_mem_nil, or_false] at hd'
        rcases hd' with e | e | e | e
        · exact ⟨true, y, e, y1, y2⟩
        · exact ⟨false, y, e, y1, y2⟩
        · exact ⟨true, wh r + 2, e, Int.le_refl _, by omega⟩
        · refine ⟨false, wh r + 2, by rw [e]; congr 1; show _ = 0 - (wh r + 2); omega, Int.le_refl _, by omega⟩
      obtain ⟨bx, z, e, z1, z2⟩ := this
      subst e
      exact ⟨_, rfl, num_ok (k := 7) hr z1 z2 ⟨rfl, _, rfl⟩⟩
    · rintro ρ S' ⟨rfl, x8', rfl⟩
      rw [q_nx, body_eq]
      simp only [PI.w_loc, PI.w_cst, PI.w_gfn, PI.w_bin, PI.w_neg, PI.w_inv, PI.w_not, PI.w_cmp, PI.w_chn, PI.w_and, PI.w_or, PI.w_iteE, PI.w_tup, PI.w_lst, PI.w_idx, PI.w_slL, PI.w_slU, PI.w_slLU, PI.w_rev, PI.w_call, PI.w_bi, PI.w_me, PI.w_comp, PI.w_nilS, PI.w_consS, PI.w_nilT, PI.w_consT, PI.w_iex, PI.w_irng, PI.w_ienm, PI.w_izp, PI.w_irv, PI.v_nil, PI.v_cons, PI.v_pass, PI.v_brk, PI.v_cnt, PI.v_never, PI.v_set, PI.v_asg, PI.asg_tp, PI.v_aug, PI.v_seti, PI.v_ex, PI.v_ret, PI.v_retN, PI.v_ite, PI.v_whl, PI.v_for, PI.rq_ret, PI.rq_opt, PI.rq_ok, PI.rsq_ok, PI.rq_truM, PI.q_nx, PI.q_rt, PI.q_bk, PI.q_ct, List.getElem?_cons_zero, List.getElem?_cons_succ, List.set_cons_zero, List.set_cons_succ, Option.join_some, wipeE, PI.b_add, PI.b_sub, PI.b_mul, PI.b_fdiv, PI.b_mod, PI.b_pow, PI.a_add, PI.a_sub, PI.a_mul, PI.u_int, PI.c_lt, PI.c_le, PI.c_gt, PI.c_ge, PI.c_is, PI.c_isn, PI.tru_bl, PI.tru_int, PI.t_abs, t_len_t, t_len_l, PI.t_int, PI.t_intb, PI.t_isi, PI.t_max2, PI.t_min2, List.map_cons, List.map_nil, List.append_nil, List.nil_append, List.cons_append, List.length_cons, List.length_nil, List.replicate_zero, List.replicate_succ, if_true, if_false, Bool.true_and, Bool.and_true, Bool.not_true, Bool.not_false, decide_true, decide_false, asgs, PI.q_if, reduceIte, reduceCtorEq, id_eq, Option.map_some, PI.rq_ite, toInt, Nat.reduceSub, Nat.reduceAdd, Int.reduceLE, Int.reduceLT, Int.reduceNeg, Nat.reduceLT, Nat.reduceLeDiff, Int.reduceEq, decide_eq_true_eq, and_true, true_and, Bool.false_eq_true, and_self, q7]
      rw [body_eq]
      simp only [PI.w_loc, PI.w_cst, PI.w_gfn, PI.w_bin, PI.w_neg, PI.w_inv, PI.w_not, PI.w_cmp, PI.w_chn, PI.w_and, PI.w_or, PI.w_iteE, PI.w_tup, PI.w_lst, PI.w_idx, PI.w_slL, PI.w_slU, PI.w_slLU, PI.w_rev, PI.w_call, PI.w_bi, PI.w_me, PI.w_comp, PI.w_nilS, PI.w_consS, PI.w_nilT, PI.w_consT, PI.w_iex, PI.w_irng, PI.w_ienm, PI.w_izp, PI.w_irv, PI.v_nil, PI.v_cons, PI.v_pass, PI.v_brk, PI.v_cnt, PI.v_never, PI.v_set, PI.v_asg, PI.asg_tp, PI.v_aug, PI.v_seti, PI.v_ex, PI.v_ret, PI.v_retN, PI.v_ite, PI.v_whl, PI.v_for, PI.rq_ret, PI.rq_opt, PI.rq_ok, PI.rsq_ok, PI.rq_truM, PI.q_nx, PI.q_rt, PI.q_bk, PI.q_ct, List.getElem?_cons_zero, List.getElem?_cons_succ, List.set_cons_zero, List.set_cons_succ, Option.join_some, wipeE, PI.b_add, PI.b_sub, PI.b_mul, PI.b_fdiv, PI.b_mod, PI.b_pow, PI.a_add, PI.a_sub, PI.a_mul, PI.u_int, PI.c_lt, PI.c_le, PI.c_gt, PI.c_ge, PI.c_is, PI.c_isn, PI.tru_bl, PI.tru_int, PI.t_abs, t_len_t, t_len_l, PI.t_int, PI.t_intb, PI.t_isi, PI.t_max2, PI.t_min2, List.map_cons, List.map_nil, List.append_nil, List.nil_append, List.cons_append, List.length_cons, List.length_nil, List.replicate_zero, List.replicate_succ, if_true, if_false, Bool.true_and, Bool.and_true, Bool.not_true, Bool.not_false, decide_true, decide_false, asgs, PI.q_if, reduceIte, reduceCtorEq, id_eq, Option.map_some, PI.rq_ite, toInt, Nat.reduceSub, Nat.reduceAdd, Int.reduceLE, Int.reduceLT, Int.reduceNeg, Nat.reduceLT, Nat.reduceLeDiff, Int.reduceEq, decide_eq_true_eq, and_true, true_and, Bool.false_eq_true, and_self, q5, q6, lim_val, qj]
      rw [body_eq]
      simp only [PI.w_loc, PI.w_cst, PI.w_gfn, PI.w_bin, PI.w_neg, PI.w_inv, PI.w_not, PI.w_cmp, PI.w_chn, PI.w_and, PI.w_or, PI.w_iteE, PI.w_tup, PI.w_lst, PI.w_idx, PI.w_slL, PI.w_slU, PI.w_slLU, PI.w_rev, PI.w_call, PI.w_bi, PI.w_me, PI.w_comp, PI.w_nilS, PI.w_consS, PI.w_nilT, PI.w_consT, PI.w_iex, PI.w_irng, PI.w_ienm, PI.w_izp, PI.w_irv, PI.v_nil, PI.v_cons, PI.v_pass, PI.v_brk, PI.v_cnt, PI.v_never, PI.v_set, PI.v_asg, PI.asg_tp, PI.v_aug, PI.v_seti, PI.v_ex, PI.v_ret, PI.v_retN, PI.v_ite, PI.v_whl, PI.v_for, PI.rq_ret, PI.rq_opt, PI.rq_ok, PI.rsq_ok, PI.rq_truM, PI.q_nx, PI.q_rt, PI.q_bk, PI.q_ct, List.getElem?_cons_zero, List.getElem?_cons_succ, List.set_cons_zero, List.set_cons_succ, Option.join_some, wipeE, PI.b_add, PI.b_sub, PI.b_mul, PI.b_fdiv, PI.b_mod, PI.b_pow, PI.a_add, PI.a_sub, PI.a_mul, PI.u_int, PI.c_lt, PI.c_le, PI.c_gt, PI.c_ge, PI.c_is, PI.c_isn, PI.tru_bl, PI.tru_int, PI.t_abs, t_len_t, t_len_l, PI.t_int, PI.t_intb, PI.t_isi, PI.t_max2, PI.t_min2, List.map_cons, List.map_nil, List.append_nil, List.nil_append, List.cons_append, List.length_cons, List.length_nil, List.replicate_zero, List.replicate_succ, if_true, if_false, Bool.true_and, Bool.and_true, Bool.not_true, Bool.not_false, decide_true, decide_false, asgs, PI.q_if, reduceIte, reduceCtorEq, id_eq, Option.map_some, PI.rq_ite, toInt, Nat.reduceSub, Nat.reduceAdd, Int.reduceLE, Int.reduceLT, Int.reduceNeg, Nat.reduceLT, Nat.reduceLeDiff, Int.reduceEq, decide_eq_true_eq, and_true, true_and, Bool.false_eq_true, and_self]
      exact ⟨hb4, _, _, _, _, _, _, _, _, rfl⟩
  · rintro ρ S ⟨hb, x2, x3, x4, x5, x6, x7, x8, x9, rfl⟩
    rw [q_nx, body_eq]
    have p1 : ∀ S, CK 5000 12 9 [] [.tup [.int 3, .int 0, .int 1]] S = .ok (.tup [.int 4, .int 3]) S := fun S => c_outward (k := 7) lp_a
    have p2 : ∀ S, CK 5000 12 11 [] [.tup [.int 1, .int 2]] S = .ok (.tup [.int (-1), .int 1]) S := fun S => c_signs (k := 7) lp_b
    have p3 : ∀ S, CK 5000 12 11 [] [.tup [.int 3, .int 0, .int 1]] S = .ok (.tup [.int 1, .int 1]) S := fun S => c_signs (k := 7) lp_a
    have p8 : ∀ S, CK 5000 12 11 [] [.tup [.int 0, .int 0, .int 0, .int (-1)]] S = .ok (.tup [.int 1, .int (-1)]) S := fun S => c_signs (k := 7) lp_f
    have o4 : lastG [-3, 0, 1] ((wh [-3, 0, 1]).toNat + 1) = 2 := by decide
    have o5 : lastG [0, 2] ((wh [0, 2]).toNat + 1) = 0 := by decide
    have o6 : lastG [5, 2] ((wh [5, 2]).toNat + 1) = 5 := by decide
    have o7 : lastG [0, 0, 0, -1] ((wh [0, 0, 0, -1]).toNat + 1) = 1 := by decide
    have p4 : ∀ S, CK 5000 12 12 [] [.tup [.int (-3), .int 0, .int 1]] S = .ok (.int 2) S := fun S => by
      have := c_out (S := S) (F := 5000) (k := 6) lp_c (Nat.le_refl _)
      rw [o4] at this
      exact this
    have p5 : ∀ S, CK 5000 12 12 [] [.tup [.int 0, .int 2]] S = .ok (.int 0) S := fun S => by
      have := c_out (S := S) (F := 5000) (k := 6) lp_d (Nat.le_refl _)
      rw [o5] at this
      exact this
    have p6 : ∀ S, CK 5000 12 12 [] [.tup [.int 5, .int 2]] S = .ok (.int 5) S := fun S => by
      have := c_out (S := S) (F := 5000) (k := 6) lp_e (Nat.le_refl _)
      rw [o6] at this
      exact this
    have p7 : ∀ S, CK 5000 12 12 [] [.tup [.int 0, .int 0, .int 0, .int (-1)]] S = .ok (.int 1) S := fun S => by
      have := c_out (S := S) (F := 5000) (k := 6) lp_f (Nat.le_refl _)
      rw [o7] at this
      exact this
    have pz : ∀ S, CK 5000 12 16 [] [.tup [.tup [.int 4, .int 3], .tup [.int (-1), .int 1], .tup [.int 1, .int 1], .int 2, .int 0, .int 5, .int 1, .tup [.int 1, .int (-1)]], .tup [.tup [.int 4, .int 3], .tup [.int (-1), .int 1], .tup [.int 1, .int 1], .int 2, .int 0, .int 5, .int 1, .tup [.int 1, .int (-1)]]] S = .ok (.bl true) S := fun S => c_is (k := 8) (by simp [tp, tps])
    simp only [PI.w_loc, PI.w_cst, PI.w_gfn, PI.w_bin, PI.w_neg, PI.w_inv, PI.w_not, PI.w_cmp, PI.w_chn, PI.w_and, PI.w_or, PI.w_iteE, PI.w_tup, PI.w_lst, PI.w_idx, PI.w_slL, PI.w_slU, PI.w_slLU, PI.w_rev, PI.w_call, PI.w_bi, PI.w_me, PI.w_comp, PI.w_nilS, PI.w_consS, PI.w_nilT, PI.w_consT, PI.w_iex, PI.w_irng, PI.w_ienm, PI.w_izp, PI.w_irv, PI.v_nil, PI.v_cons, PI.v_pass, PI.v_brk, PI.v_cnt, PI.v_never, PI.v_set, PI.v_asg, PI.asg_tp, PI.v_aug, PI.v_seti, PI.v_ex, PI.v_ret, PI.v_retN, PI.v_ite, PI.v_whl, PI.v_for, PI.body_eq, PI.rq_ret, PI.rq_opt, PI.rq_ok, PI.rsq_ok, PI.rq_truM, PI.q_nx, PI.q_rt, PI.q_bk, PI.q_ct, List.getElem?_cons_zero, List.getElem?_cons_succ, List.set_cons_zero, List.set_cons_succ, Option.join_some, wipeE, PI.b_add, PI.b_sub, PI.b_mul, PI.b_fdiv, PI.b_mod, PI.b_pow, PI.a_add, PI.a_sub, PI.a_mul, PI.u_int, PI.c_lt, PI.c_le, PI.c_gt, PI.c_ge, PI.c_is, PI.c_isn, PI.tru_bl, PI.tru_int, PI.t_abs, t_len_t, t_len_l, PI.t_int, PI.t_intb, PI.t_isi, PI.t_max2, PI.t_min2, List.map_cons, List.map_nil, List.append_nil, List.nil_append, List.cons_append, List.length_cons, List.length_nil, List.replicate_zero, List.replicate_succ, if_true, if_false, Bool.true_and, Bool.and_true, Bool.not_true, Bool.not_false, decide_true, decide_false, asgs, PI.q_if, reduceIte, reduceCtorEq, id_eq, Option.map_some, PI.rq_ite, toInt, Nat.reduceSub, Nat.reduceAdd, Int.reduceLE, Int.reduceLT, Int.reduceNeg, Nat.reduceLT, Nat.reduceLeDiff, Int.reduceEq, decide_eq_true_eq, and_true, true_and, Bool.false_eq_true, and_self, p1, p2, p3, p4, p5, p6, p7, p8, lim_val, pz]
theorem main (ns : List Int) (h : ns.length ≤ 63) : ∃ F0 S', runFn (calK fns F0 12) F0 r21.fn [.scr ns] [] = .ok (.bl true) S' := by
  obtain ⟨d, S', e, rfl⟩ := (main0 h).ex
  exact ⟨5000, S', e⟩
end Lw

/-! the head -/
namespace Lw
open PySem PySem.Spec PyProof.Rows L2 PI
abbrev R : PySem.W.OpenRow := PySem.W.OpenLaw.row PySem.Challenge.rw_fewleaps_k14_whole_outward
abbrev hk : PySem.W.Hook := He.hookD 4 T.fa (rows.map (·.d))
def ob (s : PySem.W.SharedT) : He.AlD := He.obsDG 4 T.fa (rows.map (·.d)) (HandSHeadRun.getT s)
theorem ob_eq (s : PySem.W.SharedT) : ob s = hk.obs s.abs := He.obsDG_eq (HandSHeadRun.getT_eq s)
abbrev loose : List Str := ["is_integer", "is_between", "MOST_PART", "is_leap_row", "worth", "sum_of", "is_small", "LeapError", "InvalidNumber", "InvalidLeap", "WIDE_NUMBER", "need_leap", "need_small", "value", "outward", "signs_of", "signs", "out_from", "_law_box", "_law_take", "_law_pick", "_law_is", "_law_worth", "_law_small_leap", "_law_drawn", "_law_out"]
theorem run (w : World) : HandSHeadRun.RunEq R (PySem.W.view R.prog [31]) hk ob 2000 loose w := by
  intro os
  kernel_rfl
end Lw

open PySem PySem.W PySem.Calls PyProof.Rows
theorem PySem.Challenge.cw_fewleaps_k14_whole_outward_holds : PySem.Challenge.rw_fewleaps_k14_whole_outward.Holds := by
  w_on; o_law
  refine HandSHeadRun.head_any (r := OpenLaw.row PySem.Challenge.rw_fewleaps_k14_whole_outward) (q := view (OpenLaw.row PySem.Challenge.rw_fewleaps_k14_whole_outward).prog [31]) (H := Lw.hk) (ob := Lw.ob) (M := 2000) (loose := Lw.loose)
    (d := HandSHeadRun.topDef (OpenLaw.row PySem.Challenge.rw_fewleaps_k14_whole_outward).prog 31) (kwd := []) Lw.ob_eq (by kernel_rfl) (fun s => by kernel_rfl) Lw.run (by kernel_rfl) (by kernel_rfl) (by kernel_rfl) (by rfl)
    (by first | assumption | decide +kernel) (by decide +kernel) ⟨rfl, rfl, rfl, rfl, rfl, by decide +kernel⟩ ?hw ?hc
  case hw => w_witness2
  case hc =>
    refine PI.walk_w (l := PySem.Challenge.rw_fewleaps_k14_whole_outward) (n := 63) (k := 13) (x := "script") rfl (by decide) (by kernel_rfl) ⟨rfl, by decide, by decide⟩ ?F
    intro w mg fa h Y G hmg0
    obtain ⟨K, KX, c⟩ := Y
    have hmg : mg ("law" : PySem.Str) = some (.ref fa) := by
      have e : (HandSHeadRun.topDef (OpenLaw.row PySem.Challenge.rw_fewleaps_k14_whole_outward).prog 31).name = ("law" : PySem.Str) := by kernel_rfl
      rw [← e]
      exact hmg0
    obtain ⟨fd, sp, h1, h2, h3⟩ := PI.facts_of (l := PySem.Challenge.rw_fewleaps_k14_whole_outward) (T := Lw.T) (rows := Lw.rows) (k := 12) (li := 21) (n := 63) (lr := Lw.r21) (w := w) (by decide +kernel) Lw.oks rfl rfl rfl Lw.main KX G hmg c
      (fun fd F s v => L2.FunD.bindsA (ps := ["script"]) F (fun _ _ _ _ _ _ us hl => match us, hl with | [_], _ => rfl) s [v] rfl)
    exact ⟨K, fd, sp, KX, h1, h2, h3⟩

