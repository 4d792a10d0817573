import PyProof.Rows.All
import PySem.Sem
import Wide.All
import OpenK.AllK
import Wide.FinOn
import HandS.ForMost
import HandS.ForExc
import HandS.SortInts
import HandS.TupAny
import HandS.IsInst
import HandS.Defaults
import HandS.Flt
import HandS.Style
import HandS.Conv
import HandS.CallSlots
import HandS.ExcOwn
import HandS.Zip
import KE.GoesMore
import KE.GoesEnum
import HandS.Head0
import HandS.Head1
import HandS.Head2
import HandS.HeadEnd
import HandS.HeadHook1
import HandS.HeadHook2
import KE.KStateDown
import PySem.Challenge.RW_liarsapart_k33_whole_how_far_apart
set_option Elab.async false
set_option linter.all false
set_option maxRecDepth 100000
set_option maxHeartbeats 0
/-! PyCore: a small Python as a total Lean function over plain data (values D, slots, a store of what changes). -/
namespace Dn
open PySem

inductive D where
  | non | bl (b : Bool) | int (i : Int) | str (s : Str) | ty (n : String)
  | tup (ds : List D) | lst (ds : List D) | ins (c : Nat) (fs : List D)
  | ref (r : Nat) | cls (c : Nat) | slt (i : Nat)
  deriving Inhabited

mutual
def D.same : D → D → Bool
  | .non, .non => true
  | .bl a, .bl b => a == b
  | .int a, .int b => decide (a = b)
  | .str a, .str b => decide (a = b)
  | .ty a, .ty b => decide (a = b)
  | .tup a, .tup b => D.sames a b
  | .lst a, .lst b => D.sames a b
  | .ins c a, .ins d b => decide (c = d) && D.sames a b
  | .ref a, .ref b => decide (a = b)
  | .cls a, .cls b => decide (a = b)
  | .slt a, .slt b => decide (a = b)
  | _, _ => false
def D.sames : List D → List D → Bool
  | [], [] => true
  | a :: r, b :: q => D.same a b && D.sames r q
  | _, _ => false
end
mutual
theorem D.same_iff : ∀ a b : D, D.same a b = true ↔ a = b
  | .non, b => by cases b <;> simp [D.same]
  | .bl x, b => by cases b <;> simp [D.same]
  | .int x, b => by cases b <;> simp [D.same]
  | .str x, b => by cases b <;> simp [D.same]
  | .ty x, b => by cases b <;> simp [D.same]
  | .ref x, b => by cases b <;> simp [D.same]
  | .cls x, b => by cases b <;> simp [D.same]
  | .slt x, b => by cases b <;> simp [D.same]
  | .tup x, b => by cases b <;> simp [D.same, D.sames_iff x]
  | .lst x, b => by cases b <;> simp [D.same, D.sames_iff x]
  | .ins c x, b => by cases b <;> simp [D.same, D.sames_iff x]
theorem D.sames_iff : ∀ a b : List D, D.sames a b = true ↔ a = b
  | [], [] => by simp [D.sames]
  | [], _ :: _ => by simp [D.sames]
  | _ :: _, [] => by simp [D.sames]
  | a :: r, b :: q => by simp [D.sames, D.same_iff a, D.sames_iff r]
end
instance : DecidableEq D := fun a b => decidable_of_iff _ (D.same_iff a b)

/-! ### slots, the store, results -/
inductive Slot where
  | emp | val (d : D) | own (ds : List D) | owni (c : Nat) (fs : List D)
  deriving Inhabited
inductive Ob where
  | lst (ds : List D) | ins (c : Nat) (fs : List D)
structure St where
  env : List Slot
  sto : List Ob
inductive Rs (α : Type) where
  | ok (a : α) (s : St) | exc (c : Nat) (a : D) (s : St) | bad
abbrev M (α : Type) := St → Rs α
def ret {α : Type} (a : α) : M α := fun s => .ok a s
def bad {α : Type} : M α := fun _ => .bad
def Rs.bind {α β : Type} (r : Rs α) (f : α → M β) : Rs β := match r with
  | .ok a s => f a s
  | .exc c a s => .exc c a s
  | .bad => .bad
def seq {α β : Type} (m : M α) (f : α → M β) : M β := fun s => (m s).bind f
/-- an operation upon the state's view that changes nothing -/
def opt {α : Type} (f : St → Option α) : M α := fun s => match f s with
  | some d => .ok d s
  | none => .bad
/-- what a call gives: a value and the store -/
inductive RC where
  | ok (d : D) (S : List Ob) | exc (c : Nat) (a : D) (S : List Ob) | bad
/-- calls: the def, the class to be made (for an init), the arguments, the store -/
abbrev Orc := Nat → Option Nat → List D → List Ob → RC

def view (s : St) : D → D
  | .slt i => match s.env[i]? with
    | some (.own ds) => .lst ds
    | some (.owni c fs) => .ins c fs
    | _ => .slt i
  | .ref r => match s.sto[r]? with
    | some (.lst ds) => .lst ds
    | some (.ins c fs) => .ins c fs
    | none => .ref r
  | d => d
def St.put (s : St) (i : Nat) (x : Slot) : St := { s with env := s.env.set i x }
/-- a name's value; b: in a place that only looks (a list of one's own stays one's own) -/
def getv (b : Bool) (i : Nat) : M D := fun s => match s.env[i]? with
  | some (.val d) => .ok d s
  | some (.own ds) => if b then .ok (.slt i) s else .ok (.lst ds) (s.put i (.val (.lst ds)))
  | some (.owni c fs) => if b then .ok (.slt i) s else .ok (.ins c fs) (s.put i (.val (.ins c fs)))
  | _ => .bad

/-! ### operations by values -/
inductive Op2 where | add | sub | mul | fdiv | mod | pow
inductive COp where | eq | ne | lt | le | gt | ge | isin | notin
inductive Bi where | len | all | any | sum | min | max | sorted | abs | int | tuple | list
inductive Mt where | append | pop | lindex
def lim : Nat := 16777216
def mulOk (a b : Int) : Bool := decide (a.natAbs < 18446744073709551616) || decide (b.natAbs < 18446744073709551616)
def bin (o : Op2) (x y : D) : Option D := match o, x, y with
  | .add, .int a, .int b => some (.int (a + b))
  | .add, .tup a, .tup b => if a.length + b.length ≤ lim then some (.tup (a ++ b)) else none
  | .add, .lst a, .lst b => if a.length + b.length ≤ lim then some (.lst (a ++ b)) else none
  | .sub, .int a, .int b => some (.int (a - b))
  | .mul, .int a, .int b => if mulOk a b then some (.int (a * b)) else none
  | .fdiv, .int a, .int b => if b ≠ 0 ∧ b.natAbs < 1073741824 then some (.int (a.fdiv b)) else none
  | .mod, .int a, .int b => if b ≠ 0 then some (.int (a.fmod b)) else none
  | .pow, .int a, .int b => if (0 ≤ b ∧ b ≤ 1000000) ∧ a.natAbs < 18446744073709551616 then some (.int (a ^ b.toNat)) else none
  | _, _, _ => none

/-- flat: None, bools, ints, texts -/
def D.flat : D → Bool
  | .non | .bl _ | .int _ | .str _ => true
  | _ => false
mutual
/-- plain data, at most n deep -/
def D.plain : Nat → D → Bool
  | _, .non | _, .bl _ | _, .int _ => true
  | _, .str x => x.cps.all (· < 0x110000)
  | 0, _ => false
  | n + 1, .tup ds => D.plains n ds
  | n + 1, .lst ds => D.plains n ds
  | _, _ => false
def D.plains : Nat → List D → Bool
  | _, [] => true
  | n, d :: r => D.plain n d && D.plains n r
end
def b2i (b : Bool) : Int := if b then 1 else 0
mutual
/-- == of plain data -/
def D.eqv : D → D → Bool
  | .non, .non => true
  | .bl a, .bl b => a == b
  | .bl a, .int j => decide (b2i a = j)
  | .int i, .bl b => decide (i = b2i b)
  | .int i, .int j => decide (i = j)
  | .str x, .str y => decide (x = y)
  | .lst xs, .lst ys => D.eqvs xs ys
  | .tup xs, .tup ys => D.eqvs xs ys
  | _, _ => false
def D.eqvs : List D → List D → Bool
  | [], [] => true
  | a :: r, b :: q => D.eqv a b && D.eqvs r q
  | _, _ => false
end
/-- scalars of kinds that are told apart -/
def scalD : D → D → Bool
  | .bl _, .int _ | .int _, .bl _ => false
  | x, y => x.flat && y.flat
def eqD (x y : D) : Option Bool := if scalD x y || (x.plain 60 && y.plain 60) then some (x.eqv y) else none
def ltD (x y : D) : Option Bool := match x, y with
  | .int a, .int b => some (decide (a < b))
  | _, _ => none
def leD (x y : D) : Option Bool := match x, y with
  | .int a, .int b => some (decide (a ≤ b))
  | _, _ => none
def inD (x y : D) : Option Bool := match y with
  | .lst ds | .tup ds => if x.flat && ds.all D.flat then some (ds.any fun d => d.eqv x) else none
  | _ => none
def cmpD (o : COp) (x y : D) : Option Bool := match o with
  | .eq => eqD x y
  | .ne => (eqD x y).map (!·)
  | .lt => ltD x y
  | .le => leD x y
  | .gt => ltD y x
  | .ge => leD y x
  | .isin => inD x y
  | .notin => (inD x y).map (!·)
/-- is None, is True, is False -/
def isD (x k : D) : Option Bool := match k with
  | .non => (match x with | .slt _ => none | _ => some (decide (x = .non)))
  | .bl b => (match x with | .slt _ => none | _ => some (decide (x = .bl b)))
  | _ => none
def atI {α : Type} (xs : List α) (i : Int) : Option α :=
  if 0 ≤ i then xs[i.toNat]? else if -(xs.length : Int) ≤ i then xs[(i + xs.length).toNat]? else none
def idxD (x i : D) : Option D := match x, i with
  | .lst ds, .int k | .tup ds, .int k => atI ds k
  | _, _ => none
/-- a bound of a slice -/
def sIx (n : Nat) (dflt : Nat) : Option Int → Nat
  | none => dflt
  | some i => if i < 0 then (i + n).toNat else min i.toNat n
def cut {α : Type} (xs : List α) (a b : Nat) : List α := (xs.drop a).take (b - a)
def slcD (x : D) (lo hi : Option Int) : Option D := match x with
  | .lst ds => some (.lst (cut ds (sIx ds.length 0 lo) (sIx ds.length ds.length hi)))
  | .tup ds => some (.tup (cut ds (sIx ds.length 0 lo) (sIx ds.length ds.length hi)))
  | _ => none
def D.int? : D → Option Int
  | .int i => some i
  | _ => none
def D.bl? : D → Option Bool
  | .bl b => some b
  | _ => none
def ints? : List D → Option (List Int)
  | [] => some []
  | .int i :: r => (ints? r).map (i :: ·)
  | _ => none
def bls? : List D → Option (List Bool)
  | [] => some []
  | .bl i :: r => (bls? r).map (i :: ·)
  | _ => none
def insSort (x : Int) : List Int → List Int
  | [] => [x]
  | y :: r => if x ≤ y then x :: y :: r else y :: insSort x r
def sortI (xs : List Int) : List Int := xs.foldr insSort []
def maxI : Int → List Int → Int
  | m, [] => m
  | m, x :: r => maxI (if x > m then x else m) r
def minI : Int → List Int → Int
  | m, [] => m
  | m, x :: r => minI (if x < m then x else m) r
def D.seq? : D → Option (List D)
  | .lst ds | .tup ds => some ds
  | _ => none
/-- built-in functions; a new list comes as .lst -/
def biD (f : Bi) (xs : List D) : Option D := match f, xs with
  | .len, [x] => x.seq?.map fun ds => .int ds.length
  | .all, [.lst ds] => (bls? ds).map fun bs => .bl (bs.all id)
  | .any, [.lst ds] => (bls? ds).map fun bs => .bl (bs.any id)
  | .sum, [.lst ds] => (ints? ds).map fun ns => .int ns.sum
  | .min, [.lst ds] => (ints? ds).bind fun ns => match ns with | [] => none | m :: r => some (.int (minI m r))
  | .max, [.lst ds] => (ints? ds).bind fun ns => match ns with | [] => none | m :: r => some (.int (maxI m r))
  | .min, [.int a, .int b] => some (.int (if b < a then b else a))
  | .max, [.int a, .int b] => some (.int (if b > a then b else a))
  | .min, [.int a, .int b, .int c] => some (.int (minI a [b, c]))
  | .max, [.int a, .int b, .int c] => some (.int (maxI a [b, c]))
  | .sorted, [.lst ds] => (ints? ds).map fun ns => .lst ((sortI ns).map .int)
  | .sorted, [.tup ds] => (ints? ds).map fun ns => .lst ((sortI ns).map .int)
  | .abs, [.int a] => some (.int (if a < 0 then -a else a))
  | .int, [.int a] => some (.int a)
  | .int, [.bl b] => some (.int (if b then 1 else 0))
  | .tuple, [.lst ds] => some (.tup ds)
  | .tuple, [.tup ds] => some (.tup ds)
  | .list, [.lst ds] => some (.lst ds)
  | .list, [.tup ds] => some (.lst ds)
  | _, _ => none
/-- isinstance -/
inductive Ty where | int | bool | str | tuple | list | own (c : Nat)
def isTy (x : D) (t : Ty) : Option Bool := match x with
  | .slt _ | .ref _ | .cls _ | .ty _ => none
  | .non => some false
  | .bl _ => some (match t with | .int | .bool => true | _ => false)
  | .int _ => some (match t with | .int => true | _ => false)
  | .str _ => some (match t with | .str => true | _ => false)
  | .tup _ => some (match t with | .tuple => true | _ => false)
  | .lst _ => some (match t with | .list => true | _ => false)
  | .ins c _ => some (match t with | .own d => decide (c = d) | _ => false)
def isTys (x : D) : List Ty → Option Bool
  | [] => some false
  | t :: r => (isTy x t).bind fun b => if b then some true else isTys x r
end Dn

/-! PyEval: the small language's trees and what they do. -/
namespace Dn
open PySem

mutual
inductive E where
  | var (i : Nat) | int (n : Int) | str (s : Str) | bl (b : Bool) | non
  | gint (g : Str) (n : Int) | gcls (c : Nat)
  | tup (es : Es) | lst (es : Es)
  | bin (o : Op2) (a b : E) | neg (a : E)
  | cmp (o : COp) (a b : E) | isc (ng : Bool) (a : E) (k : E) | chain (o o' : COp) (a b c : E)
  | and (es : Es) | or (es : Es) | not (a : E) | ifx (c a b : E)
  | idx (a i : E) | slc (a : E) (lo hi : Es) | rev (a : E) | fld (a : E) (f : Nat)
  | call (f : Nat) (es : Es) (ds : List D)
  | callk (f : Nat) (es ks : Es) (ix : List Nat)
  | new (c f : Nat) (es : Es)
  | bi (f : Bi) (es : Es) | lrg (tp : Bool) (es : Es) | isi (a : E) (ts : List Ty)
  | mt (m : Mt) (a : E) (es : Es)
  | comp (vs : List Nat) (t : Tg) (it : It) (cs : Es) (e : E)
  | gal (e : E)
inductive Es where
  | nil | cons (e : E) (r : Es)
inductive It where
  | seq (e : E) | rng (es : Es) | enum (e : E) | zip (a b : E)
inductive Tg where
  | nm (i : Nat) | tup (ts : Tgs) | sub (a i : E) | fld (a : E) (f : Nat)
inductive Tgs where
  | nil | cons (t : Tg) (r : Tgs)
end
mutual
inductive S where
  | asg (t : Tg) (e : E) | aown (i : Nat) (e : E) | par (i j : Nat) (x y : E) | expr (e : E) | ret (e : E) | retn
  | ite (c : E) (a b : Ss) | fors (t : Tg) (it : It) (b : Ss) | whl (n : Nat) (c : E) (b : Ss)
  | pas | brk | cnt | doc | never
inductive Ss where
  | nil | cons (s : S) (r : Ss)
end
def Tgs.len : Tgs → Nat
  | .nil => 0
  | .cons _ r => r.len + 1
structure Fn where
  np : Nat
  nn : Nat
  body : Ss
structure Tab where
  fns : List Fn
  /-- the fields of each class, by number, in the order of their first storing -/
  flds : List (List Nat)
def fldIx (T : Tab) (c f : Nat) : Option Nat := match T.flds[c]? with
  | some fs => if f ∈ fs then some (fs.idxOf f) else none
  | none => none
def fldD (T : Tab) (f : Nat) (x : D) : Option D := match x with
  | .ins c fs => (fldIx T c f).bind fun j => fs[j]?
  | _ => none

/-! ### iteration -/
/-- the items that are walked; what must stay as it is meanwhile -/
structure Tok where
  items : List D
  src : Option (D × List D)
def Tok.ok (t : Tok) (s : St) : Bool := match t.src with
  | none => true
  | some (x, ds) => decide (view s x = .lst ds)
def srcOf (x : D) (ds : List D) : Option (D × List D) := match x with
  | .ref _ => some (x, ds)
  | _ => none
def seqTok (s : St) (x : D) : Option Tok := match view s x with
  | .lst ds => some ⟨ds, srcOf x ds⟩
  | .tup ds => some ⟨ds, none⟩
  | _ => none
def numbered : Nat → List D → List D
  | _, [] => []
  | n, d :: r => .tup [.int n, d] :: numbered (n + 1) r
def rngI (lo step : Int) (n : Nat) : List D := (List.range n).map fun (j : Nat) => .int (lo + (j : Int) * step)
/-- turns of range(i, j, c) -/
def rngN (i j c : Int) : Nat := if 0 < c then ((j - i + c - 1) / c).toNat else ((i - j - c - 1) / (-c)).toNat
/-- told by a comparison of naturals, which the kernel does not unroll at a number that is not known -/
def big (i : Int) : Bool := decide (i.natAbs < 4611686018427387904)
def rngTok : List D → Option Tok
  | [.int j] => if big j ∧ j.toNat ≤ 16777216 then some ⟨rngI 0 1 j.toNat, none⟩ else none
  | [.int i, .int j] => if (big i && big j) ∧ (j - i).toNat ≤ 16777216 then some ⟨rngI i 1 (j - i).toNat, none⟩ else none
  | [.int i, .int j, .int c] => if c = -1 ∧ (big i && big j) ∧ (i - j).toNat ≤ 16777216 then some ⟨rngI i (-1) (i - j).toNat, none⟩ else none
  | _ => none
/-- list(range(..)) -/
def rngList : List D → Option (List D)
  | [.int j] => if big j ∧ j.toNat ≤ 16777216 then some (rngI 0 1 j.toNat) else none
  | [.int i, .int j] => if (big i && big j) ∧ (j - i).toNat ≤ 16777216 then some (rngI i 1 (j - i).toNat) else none
  | _ => none
/-- a comprehension's turns -/
def compLoop (chk : St → Bool) (f : D → M (Option D)) : List D → M (List D)
  | [] => fun s => if chk s then .ok [] s else .bad
  | d :: r => fun s => if chk s then (seq (f d) fun y => seq (compLoop chk f r) fun ys => ret (match y with | some z => z :: ys | none => ys)) s else .bad
def wipeE (env : List Slot) : List Nat → List Slot
  | [] => env
  | v :: vs => (wipeE env vs).set v .emp
/-- may the names vs be a block's own -/
def wipable (env : List Slot) (vs : List Nat) : Bool := vs.all fun v => match env[v]? with
  | some .emp | some (.val _) => true
  | _ => false
/-- the names vs as they were in env -/
def restore (env now : List Slot) : List Nat → List Slot
  | [] => now
  | v :: vs => (restore env now vs).set v (env[v]?.getD .emp)
def blk {α : Type} (vs : List Nat) (m : M α) : M α := fun s =>
  if wipable s.env vs then
    match m { s with env := wipeE s.env vs } with
    | .ok a s' => .ok a { s' with env := restore s.env s'.env vs }
    | _ => .bad
  else .bad
/-- the names of a block forgotten -/
def wipeM (vs : List Nat) : M Unit := fun s => .ok () { s with env := wipeE s.env vs }
def ofRC : RC → List Slot → Rs D
  | .ok d S, env => .ok d ⟨env, S⟩
  | .exc c a S, env => .exc c a ⟨env, S⟩
  | .bad, _ => .bad
/-- a method of a built-in type upon a list: of one's own, or of the store -/
def putList (x : D) (ds : List D) : M Unit := fun s => match x with
  | .slt i => match s.env[i]? with
    | some (.own _) => .ok () (s.put i (.own ds))
    | _ => .bad
  | .ref r => match s.sto[r]? with
    | some (.lst _) => .ok () { s with sto := s.sto.set r (.lst ds) }
    | _ => .bad
  | _ => .bad
def mtD (m : Mt) (x : D) (xs : List D) : M D := fun s => match m, view s x, xs with
  | .append, .lst ds, [d] => if ds.length < lim then seq (putList x (ds ++ [d])) (fun _ => ret .non) s else .bad
  | .pop, .lst ds, [] => (match ds[ds.length - 1]? with
    | some d => seq (putList x ds.dropLast) (fun _ => ret d) s
    | none => .bad)
  | .pop, .lst ds, [.int i] => if big i then (match atI ds i with
    | some d => seq (putList x (ds.eraseIdx (if 0 ≤ i then i.toNat else (i + ds.length).toNat))) (fun _ => ret d) s
    | none => .bad) else .bad
  | .lindex, .lst ds, [d] => if d.flat && ds.all D.flat then (match ds.findIdx? fun z => z.eqv d with
    | some j => .ok (.int j) s
    | none => .bad) else .bad
  | _, _, _ => .bad
def setSub (x i v : D) : M Unit := fun s => match view s x, i with
  | .lst ds, .int k => (match atI ds k with
    | some _ => putList x (ds.set (if 0 ≤ k then k.toNat else (k + ds.length).toNat) v) s
    | none => .bad)
  | _, _ => .bad
def setFld (T : Tab) (x : D) (f : Nat) (v : D) : M Unit := fun s => match x with
  | .slt i => (match s.env[i]? with
    | some (.owni c fs) => (match fldIx T c f with
      | some j => if j < fs.length then .ok () (s.put i (.owni c (fs.set j v))) else if j = fs.length then .ok () (s.put i (.owni c (fs ++ [v]))) else .bad
      | none => .bad)
    | _ => .bad)
  | .ref r => (match s.sto[r]? with
    | some (.ins c fs) => (match fldIx T c f with
      | some j => if j < fs.length then .ok () { s with sto := s.sto.set r (.ins c (fs.set j v)) } else if j = fs.length then .ok () { s with sto := s.sto.set r (.ins c (fs ++ [v])) } else .bad
      | none => .bad)
    | _ => .bad)
  | _ => .bad
def galloc (o : Ob) : M D := fun s => .ok (.ref s.sto.length) { s with sto := s.sto ++ [o] }
def D.lst? : D → Option (List D)
  | .lst ds => some ds
  | _ => none

/-- picked by place -/
def pk {α : Type} (ix : List Nat) (xs : List α) : List α := ix.filterMap fun i => xs[i]?

section
variable (T : Tab) (O : Orc)
mutual
def ev (b : Bool) : E → M D
  | .var i => getv b i
  | .int n => ret (.int n)
  | .str x => ret (.str x)
  | .bl c => ret (.bl c)
  | .non => ret .non
  | .gint _ n => ret (.int n)
  | .gcls c => ret (.cls c)
  | .tup es => seq (evs es) fun ds => ret (.tup ds)
  | .lst es => seq (evs es) fun ds => ret (.lst ds)
  | .bin o x y => seq (ev true x) fun u => seq (ev true y) fun v => opt fun s => bin o (view s u) (view s v)
  | .neg x => seq (ev true x) fun u => opt fun _ => u.int?.map fun i => .int (-i)
  | .cmp o x y => seq (ev true x) fun u => seq (ev true y) fun v => opt fun s => (cmpD o (view s u) (view s v)).map .bl
  | .isc ng x k => seq (ev true x) fun u => seq (ev true k) fun v => opt fun s => (isD u v).map fun c => .bl (if ng then !c else c)
  | .chain o o' x y z => seq (ev true x) fun u => seq (ev true y) fun v => seq (opt fun s => cmpD o (view s u) (view s v)) fun c =>
      if c then seq (ev true z) fun w => opt fun s => (cmpD o' (view s v) (view s w)).map .bl else ret (.bl false)
  | .and es => evAnd es
  | .or es => evOr es
  | .not x => seq (ev true x) fun u => opt fun _ => u.bl?.map fun c => .bl (!c)
  | .ifx c x y => seq (ev true c) fun u => match u with
    | .bl true => ev false x
    | .bl false => ev false y
    | _ => bad
  | .idx x i => seq (ev true x) fun u => seq (ev true i) fun v => opt fun s => idxD (view s u) v
  | .slc x lo hi => seq (ev true x) fun u => seq (evP lo) fun v => seq (evP hi) fun w => opt fun s => slcD (view s u) v w
  | .rev x => seq (ev true x) fun u => opt fun s => (view s u).lst?.map fun ds => .lst ds.reverse
  | .fld x f => seq (ev true x) fun u => opt fun s => fldD T f (view s u)
  | .call f es ds => seq (evs es) fun xs => fun s => ofRC (O f none (xs ++ ds) s.sto) s.env
  | .callk f es ks ix => seq (evs es) fun xs => seq (evs ks) fun zs => fun s => ofRC (O f none (pk ix (xs ++ zs)) s.sto) s.env
  | .new c f es => seq (evs es) fun xs => fun s => ofRC (O f (some c) xs s.sto) s.env
  | .bi f es => seq (evBs es) fun xs => opt fun s => biD f (xs.map (view s))
  | .lrg tp es => seq (evBs es) fun xs => opt fun _ => (rngList xs).map (if tp then .tup else .lst)
  | .isi x ts => seq (ev true x) fun u => opt fun s => (isTys (view s u) ts).map .bl
  | .mt m x es => seq (ev true x) fun u => seq (opt fun s => (view s u).lst?) fun _ => seq (evs es) fun xs => mtD m u xs
  | .comp vs t it cs e => seq (evIt it) fun k => seq (blk vs (compLoop k.ok (fun d => seq (wipeM vs) fun _ => seq (asg t d) fun _ => seq (evTs cs) fun c => if c then seq (ev false e) fun y => ret (some y) else ret none) k.items)) fun ds => ret (.lst ds)
  | .gal e => seq (evOwn e) fun ds => galloc (.lst ds)
/-- a part of a slice: left out, or an int -/
def evP : Es → M (Option Int)
  | .nil => ret none
  | .cons e .nil => seq (ev true e) fun u => match u with
    | .int i => ret (some i)
    | _ => bad
  | _ => bad
/-- values that are kept -/
def evs : Es → M (List D)
  | .nil => ret []
  | .cons e r => seq (ev false e) fun d => seq (evs r) fun ds => ret (d :: ds)
/-- values that are only looked at -/
def evBs : Es → M (List D)
  | .nil => ret []
  | .cons e r => seq (ev true e) fun d => seq (evBs r) fun ds => ret (d :: ds)
def evAnd : Es → M D
  | .nil => bad
  | .cons e .nil => seq (ev true e) fun u => match u with
    | .bl c => ret (.bl c)
    | _ => bad
  | .cons e r => seq (ev true e) fun u => match u with
    | .bl true => evAnd r
    | .bl false => ret (.bl false)
    | _ => bad
def evOr : Es → M D
  | .nil => bad
  | .cons e .nil => seq (ev true e) fun u => match u with
    | .bl c => ret (.bl c)
    | _ => bad
  | .cons e r => seq (ev true e) fun u => match u with
    | .bl false => evOr r
    | .bl true => ret (.bl true)
    | _ => bad
/-- a comprehension's tests: none or one -/
def evTs : Es → M Bool
  | .nil => ret true
  | .cons e .nil => seq (ev true e) fun u => match u with
    | .bl c => ret c
    | _ => bad
  | _ => bad
/-- a new list, nobody else's -/
def evOwn : E → M (List D)
  | .lst es => evs es
  | .comp vs t it cs e => seq (evIt it) fun k => blk vs (compLoop k.ok (fun d => seq (wipeM vs) fun _ => seq (asg t d) fun _ => seq (evTs cs) fun c => if c then seq (ev false e) fun y => ret (some y) else ret none) k.items)
  | .lrg false es => seq (evBs es) fun xs => opt fun _ => rngList xs
  | .bi .list (.cons e .nil) => seq (ev true e) fun u => opt fun s => (view s u).seq?
  | .bi .sorted (.cons e .nil) => seq (ev true e) fun u => opt fun s => (view s u).seq?.bind fun ds => (ints? ds).map fun ns => (sortI ns).map .int
  | .rev e => seq (ev true e) fun u => opt fun s => (view s u).lst?.map fun ds => ds.reverse
  | .bin .add x y => seq (ev true x) fun u => seq (ev true y) fun v => opt fun s => (bin .add (view s u) (view s v)).bind D.lst?
  | .bin .mul x y => seq (ev true x) fun u => seq (ev true y) fun v => opt fun s => (bin .mul (view s u) (view s v)).bind D.lst?
  | _ => bad
def evIt : It → M Tok
  | .seq e => seq (ev false e) fun u => opt fun s => seqTok s u
  | .rng es => seq (evBs es) fun xs => opt fun _ => rngTok xs
  | .enum e => seq (ev false e) fun u => opt fun s => (seqTok s u).map fun k => ⟨numbered 0 k.items, k.src⟩
  | .zip a b => seq (ev false a) fun u => seq (ev false b) fun v => opt fun s => match view s u, view s v with
    | .tup xs, .tup ys => some ⟨(xs.zip ys).map fun p => .tup [p.1, p.2], none⟩
    | _, _ => none
def asg : Tg → D → M Unit
  | .nm i, d => fun s => if i < s.env.length then .ok () (s.put i (.val d)) else .bad
  | .tup ts, d => match d with
    | .tup ds => if ds.length = ts.len then asgs ts ds else bad
    | _ => bad
  | .sub x i, d => seq (ev true x) fun u => seq (ev true i) fun v => setSub u v d
  | .fld x f, d => seq (ev true x) fun u => setFld T u f d
def asgs : Tgs → List D → M Unit
  | .nil, [] => ret ()
  | .cons t r, d :: ds => seq (asg t d) fun _ => asgs r ds
  | _, _ => bad
end

inductive Fl where | nx | rt (d : D) | bk | ct
def forLoop (chk : St → Bool) (f : D → M Fl) : List D → M Fl
  | [] => fun s => if chk s then .ok .nx s else .bad
  | d :: r => fun s => if chk s then (seq (f d) fun o => match o with
    | .nx | .ct => forLoop chk f r
    | .bk => ret .nx
    | .rt v => ret (.rt v)) s else .bad
def whlLoop (c : M D) (f : M Fl) : Nat → M Fl
  | 0 => bad
  | n + 1 => seq c fun u => match u with
    | .bl true => seq f fun o => (match o with
      | .nx | .ct => whlLoop c f n
      | .bk => ret .nx
      | .rt v => ret (.rt v))
    | .bl false => ret .nx
    | _ => bad
mutual
def ex : S → M Fl
  | .asg t e => seq (ev T O false e) fun d => seq (asg T O t d) fun _ => ret .nx
  | .aown i e => seq (evOwn T O e) fun ds => fun s => if i < s.env.length then .ok .nx (s.put i (.own ds)) else .bad
  | .par i j x y => seq (ev T O false x) fun u => seq (ev T O false y) fun v => fun s => if i < s.env.length ∧ j < s.env.length then .ok .nx ((s.put i (.val u)).put j (.val v)) else .bad
  | .expr e => seq (ev T O true e) fun _ => ret .nx
  | .ret e => seq (ev T O false e) fun d => ret (.rt d)
  | .retn => ret (.rt .non)
  | .ite c a b => seq (ev T O true c) fun u => match u with
    | .bl true => exs a
    | .bl false => exs b
    | _ => bad
  | .fors t it b => seq (evIt T O it) fun k => forLoop k.ok (fun d => seq (asg T O t d) fun _ => exs b) k.items
  | .whl n c b => whlLoop (ev T O true c) (exs b) n
  | .pas => ret .nx
  | .brk => ret .bk
  | .cnt => ret .ct
  | .doc => ret .nx
  | .never => bad
def exs : Ss → M Fl
  | .nil => ret .nx
  | .cons s r => seq (ex s) fun o => match o with
    | .nx => exs r
    | o => ret o
end
end

/-- a def's run: its own slots, the arguments first; for an init the new object is slot 0 -/
def runFn (T : Tab) (O : Orc) (f : Fn) (mk : Option Nat) (ds : List D) (S : List Ob) : RC :=
  match mk with
  | none => if ds.length = f.np then
      match exs T O f.body ⟨ds.map .val ++ List.replicate (f.nn - f.np) .emp, S⟩ with
      | .ok (.rt d) s => .ok d s.sto
      | .ok .nx s => .ok .non s.sto
      | .ok _ _ => .bad
      | .exc c a s => .exc c a s.sto
      | .bad => .bad
    else .bad
  | some c => if ds.length + 1 = f.np then
      match exs T O f.body ⟨.owni c [] :: ds.map .val ++ List.replicate (f.nn - f.np) .emp, S⟩ with
      | .ok (.rt _) _ => .bad
      | .ok .nx (s : St) => (match s.env[0]? with
        | some (Slot.owni c' fs) => if c' = c then .ok (.ins c fs) s.sto else .bad
        | _ => .bad)
      | .ok _ _ => .bad
      | .exc c a s => .exc c a s.sto
      | .bad => .bad
    else .bad
/-- calls, so many deep; the making of an object takes two -/
def callF (T : Tab) : Nat → Orc
  | 0 => fun _ _ _ _ => .bad
  | 1 => fun f mk ds S => match T.fns[f]? with
    | some fn => runFn T (fun _ _ _ _ => .bad) fn mk ds S
    | none => .bad
  | k + 2 => fun f mk ds S => match T.fns[f]? with
    | some fn => runFn T (fun f' mk' ds' S' => match mk' with
      | none => callF T (k + 1) f' none ds' S'
      | some c => callF T k f' (some c) ds' S') fn mk ds S
    | none => .bad
/-- what a body of level k may call -/
def orc (T : Tab) : Nat → Orc
  | 0 => fun _ _ _ _ => .bad
  | k + 1 => fun f' mk' ds' S' => match mk' with
      | none => callF T (k + 1) f' none ds' S'
      | some c => callF T k f' (some c) ds' S'
theorem callF_succ (T : Tab) (k f : Nat) (mk : Option Nat) (ds : List D) (S : List Ob) : callF T (k + 1) f mk ds S = match T.fns[f]? with
    | some fn => runFn T (orc T k) fn mk ds S
    | none => .bad := by
  cases k <;> rfl
end Dn

/-! PyRel: how the small language's data lie in the layer's abstract heap. -/
namespace Dn
open PySem L2

/-- the program's classes: where they stand, the fields' names -/
structure Gm where
  K : PySem.W.Frag
  C : Nat → Addr
  N : Nat → List Str
  n : Nat
  /-- the program's own errors -/
  X : Nat → Addr
  /-- the object that is being made -/
  me : Option Addr
/-- where the store's objects stand, which addresses may change, the heap -/
structure Rl where
  ρ : Nat → Option Addr
  Av : Addr → Prop
  H : Hp
/-- a class of the program, no more fields than it has -/
def InsOk (G : Gm) (c : Nat) (xs : List V) : Prop := xs.length ≤ (G.N c).length ∧ c < G.n

/-- a tuple of the module's own top -/
def KT (K : PySem.W.Frag) (a : Addr) (xs : List V) : Prop := ∃ (o : PySem.Obj) (its : Array Value) (n : Nat), K.lookup a = some o ∧ o.cls = .type "tuple" ∧ o.data = .seq its n ∧ its.size ≤ sizeLine ∧ Vals xs its.toList
mutual
def Rep (G : Gm) (R : Rl) : D → V → Prop
  | .non, x => x = .non
  | .bl b, x => x = .bl b
  | .int i, x => x = .int i
  | .str s, x => x = .str s
  | .ty n, x => x = .ty n
  | .tup ds, x => ∃ a xs, x = .ref a ∧ ((¬ R.Av a ∧ Rd R.H a (.tup xs)) ∨ KT G.K a xs) ∧ Reps G R ds xs
  | .lst ds, x => ∃ a xs, x = .ref a ∧ ¬ R.Av a ∧ Rd R.H a (.lst xs) ∧ Reps G R ds xs
  | .ins c fs, x => ∃ a dx xs, x = .ref a ∧ ¬ R.Av a ∧ R.H a = some (.ins (G.C c) dx ((G.N c).zip xs)) ∧ InsOk G c xs ∧ Reps G R fs xs
  | .ref r, x => ∃ a, x = .ref a ∧ R.ρ r = some a
  | .cls c, x => x = .ref (G.C c)
  | .slt _, _ => False
def Reps (G : Gm) (R : Rl) : List D → List V → Prop
  | [], xs => xs = []
  | d :: r, xs => ∃ y ys, xs = y :: ys ∧ Rep G R d y ∧ Reps G R r ys
end
/-- looked at only: the list or object itself may be one that changes -/
def RepW (G : Gm) (R : Rl) : D → V → Prop
  | .lst ds, x => ∃ a xs, x = .ref a ∧ Rd R.H a (.lst xs) ∧ Reps G R ds xs
  | .ins c fs, x => ∃ a dx xs, x = .ref a ∧ R.H a = some (.ins (G.C c) dx ((G.N c).zip xs)) ∧ InsOk G c xs ∧ Reps G R fs xs
  | .slt _, _ => True
  | d, x => Rep G R d x
def RepB (G : Gm) (R : Rl) (σ : L2.St) : D → V → Prop
  | .slt i, x => σ[i]? = some (some x)
  | d, x => Rep G R d x

section
variable {G : Gm} {R R' : Rl} {P : Addr → Prop}
theorem Rep.w : ∀ {d : D} {x : V}, Rep G R d x → RepW G R d x
  | .non, _, h | .bl _, _, h | .int _, _, h | .str _, _, h | .ty _, _, h | .ref _, _, h | .cls _, _, h => h
  | .tup _, _, h => h
  | .slt _, _, h => trivial
  | .lst ds, x, h => by
    unfold Rep at h
    obtain ⟨a, xs, e, _, h1, h2⟩ := h
    exact ⟨a, xs, e, h1, h2⟩
  | .ins c fs, x, h => by
    unfold Rep at h
    obtain ⟨a, dx, xs, e, _, h1, h2⟩ := h
    exact ⟨a, dx, xs, e, h1, h2⟩
theorem Rep.b {σ : L2.St} : ∀ {d : D} {x : V}, Rep G R d x → RepB G R σ d x
  | .non, _, h | .bl _, _, h | .int _, _, h | .str _, _, h | .ty _, _, h | .ref _, _, h | .cls _, _, h | .tup _, _, h | .lst _, _, h | .ins _ _, _, h => h
  | .slt _, _, h => by unfold Rep at h; exact h.elim
theorem Reps.length : ∀ {ds : List D} {xs : List V}, Reps G R ds xs → xs.length = ds.length
  | [], xs, h => by unfold Reps at h; rw [h]; rfl
  | d :: r, xs, h => by
    unfold Reps at h
    obtain ⟨y, ys, e, _, h2⟩ := h
    rw [e, List.length_cons, List.length_cons, Reps.length h2]
theorem Reps.nil : Reps G R [] [] := by unfold Reps; rfl
theorem Reps.cons {d : D} {x : V} {ds : List D} {xs : List V} (h : Rep G R d x) (r : Reps G R ds xs) : Reps G R (d :: ds) (x :: xs) := by
  unfold Reps; exact ⟨x, xs, rfl, h, r⟩
theorem Reps.append : ∀ {ds : List D} {xs : List V} {es : List D} {ys : List V}, Reps G R ds xs → Reps G R es ys → Reps G R (ds ++ es) (xs ++ ys)
  | [], xs, es, ys, h, r => by unfold Reps at h; subst h; exact r
  | d :: q, xs, es, ys, h, r => by
    unfold Reps at h
    obtain ⟨y, zs, e, h1, h2⟩ := h
    subst e
    exact Reps.cons h1 (Reps.append h2 r)
theorem Reps.get : ∀ {ds : List D} {xs : List V} {i : Nat} {d : D}, Reps G R ds xs → ds[i]? = some d → ∃ x, xs[i]? = some x ∧ Rep G R d x
  | [], _, _, _, _, e => by simp at e
  | d :: r, xs, i, d', h, e => by
    unfold Reps at h
    obtain ⟨y, ys, e1, h1, h2⟩ := h
    subst e1
    cases i with
    | zero => simp at e; subst e; exact ⟨y, rfl, h1⟩
    | succ i =>
      obtain ⟨x, a, b⟩ := Reps.get (i := i) (d := d') h2 (by simpa using e)
      exact ⟨x, by simpa using a, b⟩
theorem Reps.get' : ∀ {ds : List D} {xs : List V} {i : Nat} {x : V}, Reps G R ds xs → xs[i]? = some x → ∃ d, ds[i]? = some d ∧ Rep G R d x
  | [], xs, _, _, h, e => by unfold Reps at h; subst h; simp at e
  | d :: r, xs, i, d', h, e => by
    unfold Reps at h
    obtain ⟨y, ys, e1, h1, h2⟩ := h
    subst e1
    cases i with
    | zero => simp at e; subst e; exact ⟨d, rfl, h1⟩
    | succ i =>
      obtain ⟨x, a, b⟩ := Reps.get' (i := i) (x := d') h2 (by simpa using e)
      exact ⟨x, by simpa using a, b⟩
theorem Reps.set : ∀ {ds : List D} {xs : List V} {d : D} {x : V} (i : Nat), Reps G R ds xs → Rep G R d x → Reps G R (ds.set i d) (xs.set i x)
  | [], xs, _, _, _, h, _ => by unfold Reps at h; subst h; exact Reps.nil
  | d :: r, xs, d', x, i, h, q => by
    unfold Reps at h
    obtain ⟨y, ys, e1, h1, h2⟩ := h
    subst e1
    cases i with
    | zero => exact Reps.cons q h2
    | succ i => exact Reps.cons h1 (Reps.set i h2 q)
theorem Reps.take : ∀ {ds : List D} {xs : List V} (n : Nat), Reps G R ds xs → Reps G R (ds.take n) (xs.take n)
  | _, _, 0, _ => by simp; exact Reps.nil
  | [], xs, n + 1, h => by unfold Reps at h; subst h; exact Reps.nil
  | d :: r, xs, n + 1, h => by
    unfold Reps at h
    obtain ⟨y, ys, e1, h1, h2⟩ := h
    subst e1
    exact Reps.cons h1 (Reps.take n h2)
theorem Reps.drop : ∀ {ds : List D} {xs : List V} (n : Nat), Reps G R ds xs → Reps G R (ds.drop n) (xs.drop n)
  | _, _, 0, h => h
  | [], xs, n + 1, h => by unfold Reps at h; subst h; exact Reps.nil
  | d :: r, xs, n + 1, h => by
    unfold Reps at h
    obtain ⟨y, ys, e1, h1, h2⟩ := h
    subst e1
    exact Reps.drop n h2
theorem Reps.reverse : ∀ {ds : List D} {xs : List V}, Reps G R ds xs → Reps G R ds.reverse xs.reverse
  | [], xs, h => by unfold Reps at h; subst h; exact Reps.nil
  | d :: r, xs, h => by
    unfold Reps at h
    obtain ⟨y, ys, e1, h1, h2⟩ := h
    subst e1
    rw [List.reverse_cons, List.reverse_cons]
    exact Reps.append (Reps.reverse h2) (Reps.cons h1 Reps.nil)
theorem Reps.eraseIdx : ∀ {ds : List D} {xs : List V} (i : Nat), Reps G R ds xs → Reps G R (ds.eraseIdx i) (xs.eraseIdx i)
  | [], xs, _, h => by unfold Reps at h; subst h; exact Reps.nil
  | d :: r, xs, i, h => by
    unfold Reps at h
    obtain ⟨y, ys, e1, h1, h2⟩ := h
    subst e1
    cases i with
    | zero => exact h2
    | succ i => exact Reps.cons h1 (Reps.eraseIdx i h2)
theorem Reps.dropLast {ds : List D} {xs : List V} (h : Reps G R ds xs) : Reps G R ds.dropLast xs.dropLast := by
  rw [List.dropLast_eq_take, List.dropLast_eq_take, h.length]
  exact h.take _
theorem Reps.ints : ∀ {ds : List D} {xs : List V} {ns : List Int}, Reps G R ds xs → ints? ds = some ns → xs = ns.map V.int
  | [], xs, ns, h, e => by unfold Reps at h; subst h; simp [ints?] at e; subst e; rfl
  | d :: r, xs, ns, h, e => by
    unfold Reps at h
    obtain ⟨y, ys, e1, h1, h2⟩ := h
    subst e1
    cases d with
    | int i =>
      simp only [ints?, Option.map_eq_some_iff] at e
      obtain ⟨ms, e2, e3⟩ := e
      subst e3
      rw [Reps.ints (ns := ms) h2 e2]
      unfold Rep at h1
      rw [h1]; rfl
    | _ => simp [ints?] at e
theorem Reps.of_ints : ∀ (ns : List Int), Reps G R (ns.map D.int) (ns.map V.int)
  | [] => Reps.nil
  | n :: r => Reps.cons (by unfold Rep; rfl) (Reps.of_ints r)
theorem Reps.bls : ∀ {ds : List D} {xs : List V} {ns : List Bool}, Reps G R ds xs → bls? ds = some ns → xs = ns.map V.bl
  | [], xs, ns, h, e => by unfold Reps at h; subst h; simp [bls?] at e; subst e; rfl
  | d :: r, xs, ns, h, e => by
    unfold Reps at h
    obtain ⟨y, ys, e1, h1, h2⟩ := h
    subst e1
    cases d with
    | bl i =>
      simp only [bls?, Option.map_eq_some_iff] at e
      obtain ⟨ms, e2, e3⟩ := e
      subst e3
      rw [Reps.bls (ns := ms) h2 e2]
      unfold Rep at h1
      rw [h1]; rfl
    | _ => simp [bls?] at e

/-- from one moment to a later one: what may not change stays -/
structure Stp (P : Addr → Prop) (R R' : Rl) : Prop where
  rho : ∀ r a, R.ρ r = some a → R'.ρ r = some a
  keep : ∀ a o, R.H a = some o → ¬ R.Av a → R'.H a = some o ∧ ¬ R'.Av a
  prot : ∀ a o, P a → R.H a = some o → R'.H a = some o ∧ R'.Av a
theorem Stp.refl (hp : ∀ a, P a → R.Av a) : Stp P R R := ⟨fun _ _ h => h, fun _ _ h n => ⟨h, n⟩, fun a _ p h => ⟨h, hp a p⟩⟩
theorem Stp.trans {R'' : Rl} (a : Stp P R R') (b : Stp P R' R'') : Stp P R R'' where
  rho := fun r x h => b.rho r x (a.rho r x h)
  keep := fun x o h n => let ⟨h1, n1⟩ := a.keep x o h n; b.keep x o h1 n1
  prot := fun x o p h => let ⟨h1, _⟩ := a.prot x o p h; b.prot x o p h1
theorem Stp.sub {P' : Addr → Prop} (s : Stp P R R') (h : ∀ a, P' a → P a) : Stp P' R R' := ⟨s.rho, s.keep, fun a o p => s.prot a o (h a p)⟩
theorem Stp.rd (s : Stp P R R') {a : Addr} {u : HO} (h : Rd R.H a u) (n : ¬ R.Av a) : Rd R'.H a u ∧ ¬ R'.Av a := by
  rcases h with h | ⟨o, h⟩
  · exact ⟨.inl (s.keep a _ h n).1, (s.keep a _ h n).2⟩
  · exact ⟨.inr ⟨o, (s.keep a _ h n).1⟩, (s.keep a _ h n).2⟩
mutual
theorem Rep.mono (s : Stp P R R') : ∀ {d : D} {x : V}, Rep G R d x → Rep G R' d x
  | .non, _, h | .bl _, _, h | .int _, _, h | .str _, _, h | .ty _, _, h | .cls _, _, h => h
  | .slt _, _, h => h
  | .ref r, x, h => by
    unfold Rep at h ⊢
    obtain ⟨a, e, h⟩ := h
    exact ⟨a, e, s.rho _ _ h⟩
  | .tup ds, x, h => by
    unfold Rep at h ⊢
    obtain ⟨a, xs, e, h1, h2⟩ := h
    refine ⟨a, xs, e, ?_, Reps.mono s h2⟩
    rcases h1 with ⟨n, h1⟩ | h1
    · exact .inl ⟨(s.rd h1 n).2, (s.rd h1 n).1⟩
    · exact .inr h1
  | .lst ds, x, h => by
    unfold Rep at h ⊢
    obtain ⟨a, xs, e, n, h1, h2⟩ := h
    exact ⟨a, xs, e, (s.rd h1 n).2, (s.rd h1 n).1, Reps.mono s h2⟩
  | .ins c fs, x, h => by
    unfold Rep at h ⊢
    obtain ⟨a, dx, xs, e, n, h1, h2, h3⟩ := h
    exact ⟨a, dx, xs, e, (s.keep a _ h1 n).2, (s.keep a _ h1 n).1, h2, Reps.mono s h3⟩
theorem Reps.mono (s : Stp P R R') : ∀ {ds : List D} {xs : List V}, Reps G R ds xs → Reps G R' ds xs
  | [], xs, h => h
  | d :: r, xs, h => by
    unfold Reps at h ⊢
    obtain ⟨y, ys, e, h1, h2⟩ := h
    exact ⟨y, ys, e, Rep.mono s h1, Reps.mono s h2⟩
end

/-! ### slots and the store -/
def SlotOk (G : Gm) (P : Addr → Prop) (R : Rl) (x : Option (Option V)) : Slot → Prop
  | .emp => True
  | .val d => ∃ v, x = some (some v) ∧ Rep G R d v
  | .own ds => ∃ a xs, x = some (some (.ref a)) ∧ R.H a = some (.lst xs) ∧ Reps G R ds xs ∧ R.Av a ∧ ¬ P a ∧ ∀ r, R.ρ r ≠ some a
  | .owni c fs => ∃ a dx xs, x = some (some (.ref a)) ∧ R.H a = some (.ins (G.C c) dx ((G.N c).zip xs)) ∧ (InsOk G c xs ∧ G.me = some a) ∧ Reps G R fs xs ∧ R.Av a ∧ ¬ P a ∧ ∀ r, R.ρ r ≠ some a
def Slot.isOwn : Slot → Bool
  | .own _ | .owni _ _ => true
  | _ => false
/-- slot i holds a list or object of one's own, which stands at a -/
def Owns (env : List Slot) (σ : L2.St) (i : Nat) (a : Addr) : Prop := (∃ sl, env[i]? = some sl ∧ sl.isOwn = true) ∧ σ[i]? = some (some (.ref a))
def ObjRel (G : Gm) (R : Rl) (a : Addr) : Ob → Prop
  | .lst ds => ∃ xs, R.H a = some (.lst xs) ∧ Reps G R ds xs
  | .ins c fs => ∃ dx xs, R.H a = some (.ins (G.C c) dx ((G.N c).zip xs)) ∧ InsOk G c xs ∧ Reps G R fs xs
structure S0 (G : Gm) (P : Addr → Prop) (R : Rl) (S : List Ob) : Prop where
  sto : ∀ (r : Nat) o, S[r]? = some o → ∃ a, R.ρ r = some a ∧ ObjRel G R a o
  dom : ∀ r a, R.ρ r = some a → r < S.length ∧ R.Av a ∧ ¬ P a
  inj : ∀ r r' a, R.ρ r = some a → R.ρ r' = some a → r = r'
  av : ∀ a, R.Av a → R.H a ≠ none
  pr : ∀ a, P a → R.Av a
structure SR (G : Gm) (P : Addr → Prop) (R : Rl) (σ : L2.St) (s : St) : Prop where
  st : S0 G P R s.sto
  len : s.env.length = σ.length
  slot : ∀ (i : Nat) sl, s.env[i]? = some sl → SlotOk G P R σ[i]? sl
  own : ∀ i j a, Owns s.env σ i a → Owns s.env σ j a → i = j
theorem ObjRel.mono {a : Addr} {o : Ob} (s : Stp P R R') (hH : R'.H a = R.H a) (h : ObjRel G R a o) : ObjRel G R' a o := by
  cases o with
  | lst ds => obtain ⟨xs, e, r⟩ := h; exact ⟨xs, hH.trans e, r.mono s⟩
  | ins c fs => obtain ⟨dx, xs, e, l, r⟩ := h; exact ⟨dx, xs, hH.trans e, l, r.mono s⟩
/-- a new object beside -/
theorem Stp.laid (S : ∀ a, R.Av a → R.H a ≠ none) (hp : ∀ a, P a → R.Av a) {p : Addr} {o : HO} (np : R.H p = none) : Stp P R { R with H := upd R.H p o } := by
  refine ⟨fun _ _ h => h, fun a u h n => ⟨?_, n⟩, fun a u q h => ⟨?_, hp a q⟩⟩
  · show upd R.H p o a = some u
    rw [upd_ne (ne_of_none h np)]; exact h
  · show upd R.H p o a = some u
    rw [upd_ne (ne_of_none h np)]; exact h
theorem S0.stepLaid {sto : List Ob} (S : S0 G P R sto) {p : Addr} {o : HO} (np : R.H p = none) : Stp P R { R with H := upd R.H p o } := Stp.laid S.av S.pr np
theorem ObjRel.laid {sto : List Ob} (S : S0 G P R sto) {p : Addr} {o : HO} (np : R.H p = none) {a : Addr} {ob : Ob} (h : ObjRel G R a ob) : ObjRel G { R with H := upd R.H p o } a ob := by
  refine h.mono (S.stepLaid np) ?_
  show upd R.H p o a = R.H a
  rw [upd_ne]
  cases ob with
  | lst ds => obtain ⟨xs, e, _⟩ := h; exact ne_of_none e np
  | ins c fs => obtain ⟨dx, xs, e, _⟩ := h; exact ne_of_none e np
theorem S0.laid {sto : List Ob} (S : S0 G P R sto) {p : Addr} {o : HO} (np : R.H p = none) : S0 G P { R with H := upd R.H p o } sto := by
  refine ⟨fun r ob e => ?_, S.dom, S.inj, fun a h => ?_, S.pr⟩
  · obtain ⟨a, e1, h⟩ := S.sto r ob e
    exact ⟨a, e1, h.laid S np⟩
  · show upd R.H p o a ≠ none
    by_cases q : a = p
    · subst q; rw [upd_same]; exact fun z => nomatch z
    · rw [upd_ne q]; exact S.av a h
theorem SlotOk.laid {sto : List Ob} (S : S0 G P R sto) {p : Addr} {o : HO} (np : R.H p = none) {x : Option (Option V)} {sl : Slot} (h : SlotOk G P R x sl) : SlotOk G P { R with H := upd R.H p o } x sl := by
  have st := S.stepLaid (o := o) np
  cases sl with
  | emp => trivial
  | val d => obtain ⟨v, e, r⟩ := h; exact ⟨v, e, r.mono st⟩
  | own ds =>
    obtain ⟨a, xs, e, h1, h2, h3⟩ := h
    exact ⟨a, xs, e, (by show upd R.H p o a = _; rw [upd_ne (ne_of_none h1 np)]; exact h1), h2.mono st, h3⟩
  | owni c fs =>
    obtain ⟨a, dx, xs, e, h1, hl, h2, h3⟩ := h
    exact ⟨a, dx, xs, e, (by show upd R.H p o a = _; rw [upd_ne (ne_of_none h1 np)]; exact h1), hl, h2.mono st, h3⟩
theorem SR.laid {σ : L2.St} {s : St} (S : SR G P R σ s) {p : Addr} {o : HO} (np : R.H p = none) : SR G P { R with H := upd R.H p o } σ s :=
  ⟨S.st.laid np, S.len, fun i sl e => (S.slot i sl e).laid S.st np, S.own⟩
theorem SR.refl {σ : L2.St} {s : St} (S : SR G P R σ s) : Stp P R R := Stp.refl S.st.pr

/-- what the state's view shows is so in the heap -/
theorem SR.view {σ : L2.St} {s : St} (S : SR G P R σ s) : ∀ {d : D} {x : V}, RepB G R σ d x → RepW G R (view s d) x
  | .non, _, h | .bl _, _, h | .int _, _, h | .str _, _, h | .ty _, _, h | .cls _, _, h => h
  | .tup ds, _, h => h
  | .lst ds, _, h => Rep.w h
  | .ins c fs, _, h => Rep.w h
  | .ref r, x, h => by
    have h' : Rep G R (.ref r) x := h
    unfold Rep at h'
    obtain ⟨a, e, h1⟩ := h'
    unfold Dn.view
    cases q : s.sto[r]? with
    | none => simp only [q]; show Rep G R (.ref r) x; exact h
    | some o =>
      obtain ⟨b, e2, h2⟩ := S.st.sto r o q
      rw [h1] at e2; cases e2
      cases o with
      | lst ds => obtain ⟨xs, e3, h3⟩ := h2; simp only [q]; exact ⟨a, xs, e, .inl e3, h3⟩
      | ins c fs => obtain ⟨dx, xs, e3, h3⟩ := h2; simp only [q]; exact ⟨a, dx, xs, e, e3, h3⟩
  | .slt i, x, h => by
    have h' : σ[i]? = some (some x) := h
    unfold Dn.view
    cases q : s.env[i]? with
    | none => simp only [q]; trivial
    | some sl =>
      have h2 := S.slot i sl q
      cases sl with
      | emp => simp only [q]; trivial
      | val d => simp only [q]; trivial
      | own ds =>
        obtain ⟨a, xs, e, h3, h4, _⟩ := h2
        rw [h'] at e; cases e
        simp only [q]; exact ⟨a, xs, rfl, .inl h3, h4⟩
      | owni c fs =>
        obtain ⟨a, dx, xs, e, h3, hl, h4, _⟩ := h2
        rw [h'] at e; cases e
        simp only [q]; exact ⟨a, dx, xs, rfl, h3, hl.1, h4⟩
end
end Dn

/-! PySort: sorted of a tuple of ints. -/
namespace Dn
open PySem PySem.Spec PyProof.Rows L2 SrtO
section
variable {prog : Program} {w : World} {A : Around} {E : Value → Shared → Prop} {s : Shared}
/-- a tuple's items in a new list -/
theorem collect_tup {l : Addr} {vs : List Value} {Q : List Value → Shared → Prop} (hl : s.heap.IsTuple l vs.toArray) (hsz : vs.length ≤ sizeLine)
    (h : Q vs { s with heap := (s.heap.push (seqObj "list" #[] 0)).update s.heap.objs.size (Obj.mapSeq (· ++ vs.toArray)) }) : wpAny (model prog w) A (collect (.ref l)) Q E s := by
  obtain ⟨o, ho, hc, n, hd⟩ := id hl
  unfold collect
  refine wpAny_bind (wpAny_runValue (codeAny_builtin entry_proto_collect' ?_))
  show wpAny _ _ (newList [] >>= fun q => again (.builtin "list.__iadd__" ⟨[q, .ref l], []⟩)) _ _ s
  refine wpAny_bind (wpAny_newList (wpAny_pure ⟨Code.quiet_builtin _ (by decide +kernel), codeAny_builtin entry_list_iadd' ?_⟩))
  show wpAny _ _ (Builtin.List.listExtendWith (.ref s.heap.objs.size) (.ref l) (.ref s.heap.objs.size)) _ _ { s with heap := s.heap.push (seqObj "list" #[] 0) }
  unfold Builtin.List.listExtendWith
  have ho' : (s.heap.push (seqObj "list" #[] 0)).get? l = some o := Heap.get?_push_of_some _ ho
  refine wpAny_bind (wpAny_typeOf (T := "tuple") ⟨o, ho', hc⟩ ?_)
  rw [if_pos (by rw [show (Value.type "tuple" == Value.type "tuple") = true by rfl]; simp)]
  refine wpAny_bind (listItems_at ho' hd ?_)
  refine wpAny_bind (listItems_at (n := 0) (xs := #[]) (Heap.get?_push_size _ rfl) rfl ?_)
  rw [if_neg (by simp)]
  refine wpAny_bind (listUpdate_at (n := 0) (xs := #[]) (Heap.get?_push_size _ rfl) rfl ?_ (Nat.zero_le _) (by show (#[] ++ vs.toArray).size ≤ sizeLine + 1; simp only [Array.size_append, List.size_toArray, List.length_nil]; omega))
  refine wpAny_pure ?_
  refine wpAny_bind (wpAny_load (get?_update_seq (Heap.get?_push_size _ rfl) _) ?_)
  have e : ((#[] : Array Value) ++ vs.toArray).toList = vs := by simp
  show wpAny _ _ (pure ((#[] : Array Value) ++ vs.toArray).toList) Q E _
  rw [e]
  exact wpAny_pure h
theorem sorted_tup {l : Addr} {vs : List Value} {lt : Value → Value → Bool} {Q : Value → Shared → Prop} (O : Swo lt) (hl : s.heap.IsTuple l vs.toArray) (hz : vs.length ≤ sizeLine)
    (hS : 2 ≤ vs.length → ∀ (h₁ : Heap) (a : Addr), SortableO prog w A.in1.in1 { s with heap := h₁ } a vs lt) (h : ∀ out : List Value, Srtd lt out → Stb lt out vs → Q (.ref (s.heap.objs.size + 1)) { s with heap := sortedAll s.heap vs out.toArray }) :
    wpAny (model prog w) A (call (.builtin "sorted") [.ref l]) Q E s := by
  refine Calls.call_function_entry kind_sorted plain_sorted entry_sorted (args_sorted1 _) ?_
  unfold Builtin.«sorted»
  refine wpAny_bind (m := checkCount "sorted" 1 1 _) (wpAny_pure ?_)
  refine wpAny_bind (collect_tup hl hz ?_)
  refine wpAny_bind (wpAny_newList ?_ hz)
  have hsz : ((s.heap.push (seqObj "list" #[] 0)).update s.heap.objs.size (Obj.mapSeq (· ++ vs.toArray))).objs.size = s.heap.objs.size + 1 := by
    rw [Heap.size_update, size_push']
  generalize hG : (s.heap.push (seqObj "list" #[] 0)).update s.heap.objs.size (Obj.mapSeq (· ++ vs.toArray)) = g at hsz
  have hoL : (g.push (seqObj "list" vs.toArray 0)).get? (s.heap.objs.size + 1) = some (seqObj "list" vs.toArray 0) := by
    rw [← hsz]; exact Heap.get?_push_size _ rfl
  show wpAny _ _ _ _ _ { s with heap := g.push (seqObj "list" vs.toArray 0) }
  rw [hsz]
  refine wpAny_bind (wpAny_holding (wpAny_call_entry slot_list_sort ⟨_, hoL, rfl⟩ entry_list_sort (list_sort_ord O hoL hz (fun h2 => hS h2 _ _) fun out hs hb => ⟨_, rfl, ?_⟩) (args_list_sort _)))
  refine wpAny_pure ⟨_, rfl, ?_⟩
  have q := h out hs hb
  unfold sortedAll at q
  rw [hG] at q
  exact q
end
/-- sorted of a tuple of ints -/
def rSrtT (K : PySem.W.Frag) : List V → Hp → VK → Prop := fun vs H Q => ∃ (a : Addr) (ns : List Int), vs = [V.ref a] ∧ SqT K H a (ns.map V.int) ∧ ∀ (ms : List Int) (p : Addr), ms.Perm ns → ms.Pairwise (· ≤ ·) → H p = none → Q (.ref p) (upd H p (.lst (ms.map V.int)))
theorem cr_srtT {X : Cx} : CallR X (.builtin "sorted") (rSrtT X.K) := by
  intro pins s σ H vs us Q I r h
  obtain ⟨a, ns, rfl, hs, q⟩ := h
  obtain ⟨its, rv, hl, hz⟩ := I.tuple hs
  rw [Vals.ref1 r]
  have hi := rv.ints
  refine sorted_tup swo_int (show s.heap.IsTuple a its.toArray from hl) (by rw [← rv.length]; exact hz) (fun h2 h₁ a' => ints_sortable hi h2) fun out h1 h2 => ?_
  obtain ⟨k1, k2, k3⟩ := ints_out hi h1 h2
  obtain ⟨ep, he⟩ := sortedAll_at s.heap its out.toArray
  have hlen : ((out.map iv).map V.int).length ≤ sizeLine := by
    rw [List.length_map, k2.length_eq]
    rw [List.length_map] at hz
    exact hz
  exact ⟨.ref _, upd H (s.heap.objs.size + 1) (.lst ((out.map iv).map V.int)), I.laid (t' := s.toks) (fun _ _ => sortedAll_old) (Nat.le_succ _) ⟨hlen, out, ep, vals_of_ints k1, he⟩, rfl, q _ _ k2 k3 (I.hok.fresh (Nat.le_succ _))⟩
/-- sorted of a list or a tuple of ints -/
def rSrtX (K : PySem.W.Frag) : List V → Hp → VK → Prop := fun vs H Q => ∃ (a : Addr) (ns : List Int), vs = [V.ref a] ∧ (SqL K H a (ns.map V.int) ∨ SqT K H a (ns.map V.int)) ∧ ∀ (ms : List Int) (p : Addr), ms.Perm ns → ms.Pairwise (· ≤ ·) → H p = none → Q (.ref p) (upd H p (.lst (ms.map V.int)))
theorem cr_srtX {X : Cx} : CallR X (.builtin "sorted") (rSrtX X.K) := by
  intro pins s σ H vs us Q I r h
  obtain ⟨a, ns, e, hs | hs, q⟩ := h
  · exact cr_sortedI pins s σ H vs us Q I r ⟨a, ns, e, hs, q⟩
  · exact cr_srtT pins s σ H vs us Q I r ⟨a, ns, e, hs, q⟩
end Dn

/-! PyPrim: the operations by values are the layer's. -/
namespace Dn
open PySem L2

/-- sizes are within the line -/
def Bnd (H : Hp) : Prop := ∀ a xs, (Rd H a (.lst xs) ∨ Rd H a (.tup xs)) → xs.length ≤ sizeLine
theorem Bnd.of {X : Cx} {pins : List (Addr × PySem.Obj)} {σ : L2.St} {H : Hp} {s : Shared} (I : Inv X pins σ H s) : Bnd H := fun a xs h => by
  rcases h with h | h
  · exact (h.ok I.hok).1
  · exact (h.ok I.hok).1
/-- what is wanted of a value that an operation gives -/
def Wn (G : Gm) (P : Addr → Prop) (R : Rl) (σ : L2.St) (s : St) (d : D) (Q : VK) : Prop := ∀ x R', Stp P R R' → Bnd R'.H → SR G P R' σ s → Rep G R' d x → Q x R'.H
section
variable {G : Gm} {P : Addr → Prop} {R : Rl} {σ : L2.St} {s : St} {Q : VK}
theorem Wn.here {d : D} (w : Wn G P R σ s d Q) (S : SR G P R σ s) (b : Bnd R.H) {x : V} (r : Rep G R d x) : Q x R.H := w x R S.refl b S r
/-- .. of a new object -/
theorem Wn.fresh {d : D} (w : Wn G P R σ s d Q) (S : SR G P R σ s) {p : Addr} {o : HO} (np : R.H p = none) (b : Bnd (upd R.H p o)) {x : V} (r : Rep G { R with H := upd R.H p o } d x) : Q x (upd R.H p o) :=
  w x { R with H := upd R.H p o } (S.st.stepLaid np) b (S.laid np) r
theorem nav_of {R : Rl} {S : List Ob} (h : S0 G P R S) {p : Addr} (np : R.H p = none) : ¬ R.Av p := fun q => h.av p q np
theorem Rep.new_lst (S : SR G P R σ s) {p : Addr} {ds : List D} {xs : List V} (np : R.H p = none) (r : Reps G R ds xs) : Rep G { R with H := upd R.H p (.lst xs) } (.lst ds) (.ref p) := by
  unfold Rep
  exact ⟨p, xs, rfl, nav_of S.st np, .inl upd_same, r.mono (S.st.stepLaid np)⟩
theorem Rep.new_tup (S : SR G P R σ s) {p : Addr} {ds : List D} {xs : List V} (np : R.H p = none) (r : Reps G R ds xs) : Rep G { R with H := upd R.H p (.tup xs) } (.tup ds) (.ref p) := by
  unfold Rep
  exact ⟨p, xs, rfl, .inl ⟨nav_of S.st np, .inl upd_same⟩, r.mono (S.st.stepLaid np)⟩
theorem RepW.lst_inv {ds : List D} {x : V} (h : RepW G R (.lst ds) x) : ∃ a xs, x = .ref a ∧ Rd R.H a (.lst xs) ∧ Reps G R ds xs := h
theorem RepW.tup_inv {ds : List D} {x : V} (h : RepW G R (.tup ds) x) : ∃ a xs, x = .ref a ∧ SqT G.K R.H a xs ∧ Reps G R ds xs := by
  have h' : Rep G R (.tup ds) x := h
  unfold Rep at h'
  obtain ⟨a, xs, e, h1, h2⟩ := h'
  refine ⟨a, xs, e, ?_, h2⟩
  rcases h1 with ⟨_, h1⟩ | h1
  · exact .inl h1
  · exact .inr h1
theorem RepW.int_inv {i : Int} {x : V} (h : RepW G R (.int i) x) : x = .int i := by
  have h' : Rep G R (.int i) x := h
  unfold Rep at h'; exact h'
theorem RepW.bl_inv {i : Bool} {x : V} (h : RepW G R (.bl i) x) : x = .bl i := by
  have h' : Rep G R (.bl i) x := h
  unfold Rep at h'; exact h'
theorem RepW.str_inv {i : Str} {x : V} (h : RepW G R (.str i) x) : x = .str i := by
  have h' : Rep G R (.str i) x := h
  unfold Rep at h'; exact h'
theorem RepW.non_inv {x : V} (h : RepW G R .non x) : x = .non := by
  have h' : Rep G R .non x := h
  unfold Rep at h'; exact h'
theorem Rep.int {i : Int} : Rep G R (.int i) (.int i) := by unfold Rep; rfl
theorem Rep.bl {i : Bool} : Rep G R (.bl i) (.bl i) := by unfold Rep; rfl
theorem Rep.str {i : Str} : Rep G R (.str i) (.str i) := by unfold Rep; rfl
theorem Rep.non : Rep G R .non .non := by unfold Rep; rfl
theorem Rep.cls {c : Nat} : Rep G R (.cls c) (.ref (G.C c)) := by unfold Rep; rfl
end

/-- readings of operations by data -/
def rD1 (G : Gm) (f : D → Option D) : V → Hp → VK → Prop := fun x H Q => ∃ P R σ s d v, R.H = H ∧ Bnd H ∧ SR G P R σ s ∧ RepW G R d x ∧ f d = some v ∧ Wn G P R σ s v Q
def rD2 (G : Gm) (f : D → D → Option D) : R2 := fun x y H Q => ∃ P R σ s d e v, R.H = H ∧ Bnd H ∧ SR G P R σ s ∧ RepW G R d x ∧ RepW G R e y ∧ f d e = some v ∧ Wn G P R σ s v Q
section
variable {X : Cx} {G : Gm}
/-- behind an operation the sizes are within the line -/
theorem OpR.bnd {f : Value → Value → Sem Value} {r : R2} (h : OpR X f r) : OpR X f (fun x y H Q => r x y H fun z H' => Bnd H' → Q z H') := by
  intro pins s σ H x y v u Q I rx ry q
  exact thn (h pins s σ H x y v u _ I rx ry q) fun _ _ ⟨z, H', I', r', q'⟩ => ⟨z, H', I', r', q' (Bnd.of I')⟩
theorem CallR.bnd {f : Value} {r : List V → Hp → VK → Prop} (h : CallR X f r) : CallR X f (fun xs H Q => r xs H fun z H' => Bnd H' → Q z H') := by
  intro pins s σ H xs us Q I rs q
  exact thn (h pins s σ H xs us _ I rs q) fun _ _ ⟨z, H', I', r', q'⟩ => ⟨z, H', I', r', q' (Bnd.of I')⟩
theorem IxR.bnd {r : R2} (h : IxR X r) : IxR X (fun x y H Q => r x y H fun z H' => Bnd H' → Q z H') := by
  intro a b pins s σ H x y v u Q I rx ry q hs
  exact thn (h a b pins s σ H x y v u _ I rx ry q hs) fun _ _ ⟨z, H', I', r', q'⟩ => ⟨z, H', I', r', q' (Bnd.of I')⟩
theorem MtR.bnd {id : String} {r : V → List V → Hp → VK → Prop} (h : MtR X id r) : MtR X id (fun x xs H Q => r x xs H fun z H' => Bnd H' → Q z H') := by
  intro pins s σ H x xs v us Q I rx rs q
  exact thn (h pins s σ H x xs v us _ I rx rs q) fun _ _ ⟨z, H', I', r', q'⟩ => ⟨z, H', I', r', q' (Bnd.of I')⟩
theorem SlR.bnd {r : V → Option Int → Option Int → Hp → VK → Prop} (h : L2.SlR X r) : L2.SlR X (fun x lo hi H Q => r x lo hi H fun z H' => Bnd H' → Q z H') := by
  intro pins s σ H x v vl vu lo hi sl Q I rx hs pl pu q
  obtain ⟨T, id, a, b, c⟩ := h pins s σ H x v vl vu lo hi sl _ I rx hs pl pu q
  exact ⟨T, id, a, b, thn c fun _ _ ⟨z, H', I', r', q'⟩ => ⟨z, H', I', r', q' (Bnd.of I')⟩⟩

def opOf : Op2 → Operator
  | .add => .Add | .sub => .Sub | .mul => .Mult | .fdiv => .FloorDiv | .mod => .Mod | .pow => .Pow
theorem lim_line : lim = sizeLine := by decide
theorem pow64 : (2 : Int) ^ 64 = 18446744073709551616 := by decide
/-- lists that are tracked or locked, one behind the other -/
theorem op_cat' : OpR X (binaryOp .Add) (fun x y H Q => ∃ l b xs zs, x = .ref l ∧ y = .ref b ∧ Rd H l (.lst xs) ∧ Rd H b (.lst zs) ∧ xs.length + zs.length ≤ sizeLine ∧ ∀ p, H p = none → Q (.ref p) (upd H p (.lst (xs ++ zs)))) := by
  intro pins s σ H x y v u Q I rx ry h
  obtain ⟨l, b, xs, zs, rfl, rfl, hH, hB, hz, q⟩ := h
  cases rx
  cases ry
  obtain ⟨z, its, n, r, e⟩ := hH.ok I.hok
  obtain ⟨z2, its2, n2, r2, e2⟩ := hB.ok I.hok
  have hl := r.length
  have hl2 := r2.length
  refine PySem.P.add_list e e2 ?_ (by rw [List.size_toArray, List.size_toArray]; omega)
  have ea : its.toArray ++ its2.toArray = (its ++ its2).toArray := by simp
  rw [ea]
  exact ⟨.ref _, _, I.lnew (t' := s.toks) (r.append r2) (by rw [List.length_append]; omega), rfl, q _ I.fresh⟩
theorem op_bin (o : Op2) (hK : X.K = G.K) : OpR X (binaryOp (opOf o)) (rD2 G (bin o)) := by
  intro pins s0 σ0 H x y v u Q I rx ry h
  obtain ⟨P, R, σ, s, d, e, z, rfl, bn, S, rd, re, ez, w⟩ := h
  have int2 : ∀ {k : Int}, z = .int k → Q (.int k) R.H := fun e => w.here S bn (by rw [e]; exact Rep.int)
  cases o with
  | add =>
    cases d with
    | int a =>
      cases e with
      | int b => exact op_add pins s0 σ0 _ x y v u Q I rx ry ⟨a, b, rd.int_inv, re.int_inv, int2 (by simpa [bin] using ez.symm)⟩
      | _ => simp [bin] at ez
    | tup a =>
      cases e with
      | tup b =>
        simp only [bin] at ez
        split at ez
        · rename_i hl
          cases ez
          obtain ⟨p, xs, rfl, h1, h2⟩ := rd.tup_inv
          obtain ⟨q, ys, rfl, h3, h4⟩ := re.tup_inv
          have hl' : xs.length + ys.length ≤ sizeLine := by rw [h2.length, h4.length, ← lim_line]; exact hl
          refine OpR.bnd op_catA pins s0 σ0 _ _ _ v u Q I rx ry ⟨p, q, xs, ys, rfl, rfl, by rw [hK]; exact h1, by rw [hK]; exact h3, hl', fun e => ?_, fun e1 e2 => ?_, fun e1 e2 r hr b => ?_⟩
          · intro bb
            subst e
            have e0 : a = [] := List.length_eq_zero_iff.mp (by rw [← h2.length]; rfl)
            subst e0
            exact w.here S bn re
          · intro bb
            subst e2
            have e0 : b = [] := List.length_eq_zero_iff.mp (by rw [← h4.length]; rfl)
            subst e0
            rw [List.append_nil] at w
            exact w.here S bn rd
          · exact w.fresh S hr b (Rep.new_tup S hr (h2.append h4))
        · cases ez
      | _ => simp [bin] at ez
    | lst a =>
      cases e with
      | lst b =>
        simp only [bin] at ez
        split at ez
        · rename_i hl
          cases ez
          obtain ⟨p, xs, rfl, h1, h2⟩ := rd.lst_inv
          obtain ⟨q, ys, rfl, h3, h4⟩ := re.lst_inv
          have hl' : xs.length + ys.length ≤ sizeLine := by rw [h2.length, h4.length, ← lim_line]; exact hl
          exact OpR.bnd op_cat' pins s0 σ0 _ _ _ v u Q I rx ry ⟨p, q, xs, ys, rfl, rfl, h1, h3, hl', fun r hr b => w.fresh S hr b (Rep.new_lst S hr (h2.append h4))⟩
        · cases ez
      | _ => simp [bin] at ez
    | _ => cases e <;> simp [bin] at ez
  | sub =>
    cases d with
    | int a =>
      cases e with
      | int b => exact op_sub pins s0 σ0 _ x y v u Q I rx ry ⟨a, b, rd.int_inv, re.int_inv, int2 (by simpa [bin] using ez.symm)⟩
      | _ => simp [bin] at ez
    | _ => cases e <;> simp [bin] at ez
  | mul =>
    cases d with
    | int a =>
      cases e with
      | int b =>
        simp only [bin] at ez
        split at ez
        · rename_i hl
          refine op_mul pins s0 σ0 _ x y v u Q I rx ry ⟨a, b, rd.int_inv, re.int_inv, ?_, int2 (by cases ez; rfl)⟩
          simp only [mulOk, Bool.or_eq_true, Bool.and_eq_true, decide_eq_true_eq] at hl
          unfold CMul
          omega
        · cases ez
      | _ => simp [bin] at ez
    | _ => cases e <;> simp [bin] at ez
  | fdiv =>
    cases d with
    | int a =>
      cases e with
      | int b =>
        simp only [bin] at ez
        split at ez
        · rename_i hl
          exact op_fdivN pins s0 σ0 _ x y v u Q I rx ry ⟨a, b, rd.int_inv, re.int_inv, hl, int2 (by cases ez; rfl)⟩
        · cases ez
      | _ => simp [bin] at ez
    | _ => cases e <;> simp [bin] at ez
  | mod =>
    cases d with
    | int a =>
      cases e with
      | int b =>
        simp only [bin] at ez
        split at ez
        · rename_i hl
          exact op_modN pins s0 σ0 _ x y v u Q I rx ry ⟨a, b, rd.int_inv, re.int_inv, hl, int2 (by cases ez; rfl)⟩
        · cases ez
      | _ => simp [bin] at ez
    | _ => cases e <;> simp [bin] at ez
  | pow =>
    cases d with
    | int a =>
      cases e with
      | int b =>
        simp only [bin] at ez
        split at ez
        · rename_i hl
          exact op_pow pins s0 σ0 _ x y v u Q I rx ry ⟨a, b, rd.int_inv, re.int_inv, ⟨hl.1.1, hl.1.2, hl.2⟩, int2 (by cases ez; rfl)⟩
        · cases ez
      | _ => simp [bin] at ez
    | _ => cases e <;> simp [bin] at ez

def copOf : COp → CmpOp
  | .eq => .Eq | .ne => .NotEq | .lt => .Lt | .le => .LtE | .gt => .Gt | .ge => .GtE | .isin => .In | .notin => .NotIn
theorem flat_rep {R : Rl} {d : D} {x : V} (f : d.flat = true) (r : RepW G R d x) : flatV x = true ∧ (match d with | .non => x = .non | .bl b => x = .bl b | .int i => x = .int i | .str z => x = .str z | _ => False) := by
  cases d with
  | non => have e := r.non_inv; subst e; exact ⟨rfl, rfl⟩
  | bl b => have e := r.bl_inv; subst e; exact ⟨rfl, rfl⟩
  | int i => have e := r.int_inv; subst e; exact ⟨rfl, rfl⟩
  | str z => have e := r.str_inv; subst e; exact ⟨rfl, rfl⟩
  | _ => cases f
theorem eqV_flat {R : Rl} {d e : D} {x y : V} (fd : d.flat = true) (fe : e.flat = true) (rd : RepW G R d x) (re : RepW G R e y) : eqV x y = d.eqv e := by
  obtain ⟨_, h1⟩ := flat_rep fd rd
  obtain ⟨_, h2⟩ := flat_rep fe re
  cases d <;> cases e <;> simp only at h1 h2 <;> subst h1 <;> subst h2 <;> first | rfl | simp [L2.eqV, D.eqv, b2i] | cases fd | cases fe
theorem scal_rep {R : Rl} {d e : D} {x y : V} (sc : scalD d e = true) (rd : RepW G R d x) (re : RepW G R e y) : scal x y = true ∧ decide (x = y) = d.eqv e := by
  have fl : d.flat = true ∧ e.flat = true := by
    unfold scalD at sc
    split at sc
    · cases sc
    · cases sc
    · simpa using sc
  obtain ⟨_, h1⟩ := flat_rep fl.1 rd
  obtain ⟨_, h2⟩ := flat_rep fl.2 re
  cases d <;> cases e <;> simp only at h1 h2 <;> subst h1 <;> subst h2 <;> first | exact ⟨rfl, dec_bl⟩ | (refine ⟨rfl, ?_⟩; simp [D.eqv]; done) | (cases sc; done) | (cases fl.1; done) | (cases fl.2; done)
/-- plain data in the model's words -/
def toP : D → PyData
  | .bl b => .bool b
  | .int i => .int i
  | .str x => .str x
  | .tup ds => .tuple (toPs ds)
  | .lst ds => .list (toPs ds)
  | _ => .none
where toPs : List D → List PyData
  | [] => []
  | d :: r => toP d :: toPs r
mutual
theorem plain_dp {K : PySem.W.Frag} {R : Rl} (hK : K = G.K) : ∀ (n : Nat) (d : D) (x : V), d.plain n = true → Rep G R d x → Dp K R.H x (toP d)
  | _, .non, x, _, r => by unfold Rep at r; subst r; exact .non
  | _, .bl b, x, _, r => by unfold Rep at r; subst r; exact .bl b
  | _, .int b, x, _, r => by unfold Rep at r; subst r; exact .int b
  | _, .str b, x, _, r => by unfold Rep at r; subst r; exact .str b
  | 0, .tup ds, x, h, r => by simp [D.plain] at h
  | 0, .lst ds, x, h, r => by simp [D.plain] at h
  | n + 1, .tup ds, x, h, r => by
    obtain ⟨a, xs, rfl, h1, h2⟩ := RepW.tup_inv r.w
    exact .tup (by rw [hK]; exact h1) (plains_dp hK n ds xs (by simpa [D.plain] using h) h2)
  | n + 1, .lst ds, x, h, r => by
    obtain ⟨a, xs, rfl, h1, h2⟩ := RepW.lst_inv r.w
    exact .lst (.inl h1) (plains_dp hK n ds xs (by simpa [D.plain] using h) h2)
  | 0, .ins _ _, _, h, _ | 0, .ref _, _, h, _ | 0, .cls _, _, h, _ | 0, .slt _, _, h, _ | 0, .ty _, _, h, _ => by simp [D.plain] at h
  | _ + 1, .ins _ _, _, h, _ | _ + 1, .ref _, _, h, _ | _ + 1, .cls _, _, h, _ | _ + 1, .slt _, _, h, _ | _ + 1, .ty _, _, h, _ => by simp [D.plain] at h
theorem plains_dp {K : PySem.W.Frag} {R : Rl} (hK : K = G.K) : ∀ (n : Nat) (ds : List D) (xs : List V), D.plains n ds = true → Reps G R ds xs → DpAll K R.H xs (toP.toPs ds)
  | _, [], xs, _, r => by unfold Reps at r; subst r; exact .nil
  | n, d :: q, xs, h, r => by
    unfold Reps at r
    obtain ⟨y, ys, e, h1, h2⟩ := r
    subst e
    have h' : d.plain n = true ∧ D.plains n q = true := by simpa [D.plains] using h
    exact .cons (plain_dp hK n d y h'.1 h1) (plains_dp hK n q ys h'.2 h2)
end
theorem plain_dpW {K : PySem.W.Frag} {R : Rl} (hK : K = G.K) {n : Nat} {d : D} {x : V} (h : d.plain n = true) (r : RepW G R d x) : Dp K R.H x (toP d) := by
  cases d with
  | lst ds =>
    obtain ⟨a, xs, rfl, h1, h2⟩ := r.lst_inv
    cases n with
    | zero => simp [D.plain] at h
    | succ n => exact .lst (.inl h1) (plains_dp hK n ds xs (by simpa [D.plain] using h) h2)
  | slt i => cases n <;> simp [D.plain] at h
  | ins c fs => cases n <;> simp [D.plain] at h
  | _ => exact plain_dp hK n _ x h r
mutual
theorem plain_lay : ∀ (n : Nat) (d : D), d.plain n = true → (toP d).canLay0 = true ∧ (toP d).depth ≤ n
  | _, .non, _ | _, .bl b, _ | _, .int b, _ => by simp [toP, PyData.canLay0, PyData.depth]
  | _, .str b, h => by simpa [toP, PyData.canLay0, PyData.depth, PyData.strOk, D.plain] using h
  | 0, .tup ds, h => by simp [D.plain] at h
  | 0, .lst ds, h => by simp [D.plain] at h
  | n + 1, .tup ds, h => by
    have := plains_lay n ds (by simpa [D.plain] using h)
    simp [toP, PyData.canLay0, PyData.depth, this]
  | n + 1, .lst ds, h => by
    have := plains_lay n ds (by simpa [D.plain] using h)
    simp [toP, PyData.canLay0, PyData.depth, this]
  | 0, .ins _ _, h | 0, .ref _, h | 0, .cls _, h | 0, .slt _, h | 0, .ty _, h => by simp [D.plain] at h
  | _ + 1, .ins _ _, h | _ + 1, .ref _, h | _ + 1, .cls _, h | _ + 1, .slt _, h | _ + 1, .ty _, h => by simp [D.plain] at h
theorem plains_lay : ∀ (n : Nat) (ds : List D), D.plains n ds = true → PyData.canLayAll0 (toP.toPs ds) = true ∧ PyData.depthAll (toP.toPs ds) ≤ n
  | n, [], _ => by simp [toP.toPs, PyData.canLayAll0, PyData.depthAll]
  | n, d :: r, h => by
    have h' : d.plain n = true ∧ D.plains n r = true := by simpa [D.plains] using h
    have h1 := plain_lay n d h'.1
    have h2 := plains_lay n r h'.2
    simp [toP.toPs, PyData.canLayAll0, PyData.depthAll, h1, h2]
    omega
end
theorem plain_shaped {d : D} (h : d.plain 60 = true) : SeqAt.shaped (toP d) = true := by
  have := plain_lay 60 d h
  simp [SeqAt.shaped, this]
  omega
mutual
theorem eqv_toP : ∀ (n : Nat) (d e : D), d.plain n = true → e.plain n = true → PyData.eqv (toP d) (toP e) = d.eqv e
  | n + 1, .tup a, .tup b, h1, h2 => by
    simp only [toP, PyData.eqv, D.eqv]
    exact eqvs_toP n _ _ (by simpa [D.plain] using h1) (by simpa [D.plain] using h2)
  | n + 1, .lst a, .lst b, h1, h2 => by
    simp only [toP, PyData.eqv, D.eqv]
    exact eqvs_toP n _ _ (by simpa [D.plain] using h1) (by simpa [D.plain] using h2)
  | 0, .tup a, _, h1, _ => by simp [D.plain] at h1
  | 0, .lst a, _, h1, _ => by simp [D.plain] at h1
  | n, .non, e, _, h2 => by cases n <;> cases e <;> first | (simp [D.plain] at h2; done) | rfl
  | n, .bl b, e, _, h2 => by cases n <;> cases e <;> first | (simp [D.plain] at h2; done) | rfl | (simp [toP, PyData.eqv, D.eqv, b2i]; done)
  | n, .int b, e, _, h2 => by cases n <;> cases e <;> first | (simp [D.plain] at h2; done) | rfl | (simp [toP, PyData.eqv, D.eqv, b2i]; done)
  | n, .str b, e, _, h2 => by cases n <;> cases e <;> first | (simp [D.plain] at h2; done) | rfl | (simp [toP, PyData.eqv, D.eqv, b2i]; done)
  | n + 1, .tup a, .non, _, h2 | n + 1, .tup a, .bl _, _, h2 | n + 1, .tup a, .int _, _, h2 | n + 1, .tup a, .str _, _, h2 | n + 1, .tup a, .lst _, _, h2 => rfl
  | n + 1, .lst a, .non, _, h2 | n + 1, .lst a, .bl _, _, h2 | n + 1, .lst a, .int _, _, h2 | n + 1, .lst a, .str _, _, h2 | n + 1, .lst a, .tup _, _, h2 => rfl
  | n + 1, _, .ins _ _, _, h | n + 1, _, .ref _, _, h | n + 1, _, .cls _, _, h | n + 1, _, .slt _, _, h | n + 1, _, .ty _, _, h => by simp [D.plain] at h
  | n, .ins _ _, _, h, _ | n, .ref _, _, h, _ | n, .cls _, _, h, _ | n, .slt _, _, h, _ | n, .ty _, _, h, _ => by cases n <;> simp [D.plain] at h
theorem eqvs_toP : ∀ (n : Nat) (d e : List D), D.plains n d = true → D.plains n e = true → PyData.eqvAll (toP.toPs d) (toP.toPs e) = D.eqvs d e
  | n, [], [], _, _ => rfl
  | n, [], _ :: _, _, _ => rfl
  | n, _ :: _, [], _, _ => rfl
  | n, d :: r, e :: q, h1, h2 => by
    have h1' : d.plain n = true ∧ D.plains n r = true := by simpa [D.plains] using h1
    have h2' : e.plain n = true ∧ D.plains n q = true := by simpa [D.plains] using h2
    simp only [toP.toPs, PyData.eqvAll, D.eqvs]
    rw [eqv_toP n d e h1'.1 h2'.1, eqvs_toP n r q h1'.2 h2'.2]
end
theorem all_flat {R : Rl} : ∀ {ds : List D} {xs : List V}, ds.all D.flat = true → Reps G R ds xs → xs.all flatV = true
  | [], xs, _, r => by unfold Reps at r; subst r; rfl
  | d :: q, xs, h, r => by
    unfold Reps at r
    obtain ⟨y, ys, e, h1, h2⟩ := r
    subst e
    simp only [List.all_cons, Bool.and_eq_true] at h ⊢
    exact ⟨(flat_rep h.1 h1.w).1, all_flat h.2 h2⟩
theorem any_eqv {R : Rl} {d : D} {x : V} (fd : d.flat = true) (rd : RepW G R d x) : ∀ {ds : List D} {xs : List V}, ds.all D.flat = true → Reps G R ds xs → inV x xs = ds.any fun e => e.eqv d
  | [], xs, _, r => by unfold Reps at r; subst r; rfl
  | e :: q, xs, h, r => by
    unfold Reps at r
    obtain ⟨y, ys, e0, h1, h2⟩ := r
    subst e0
    simp only [List.all_cons, Bool.and_eq_true] at h
    unfold inV
    rw [List.any_cons, List.any_cons, eqV_flat h.1 fd h1.w rd]
    have := any_eqv fd rd h.2 h2
    unfold inV at this
    rw [this]
theorem op_cmp (o : COp) (hK : X.K = G.K) (hu : X.A.units + 64 < cLine) : OpR X (compareOp (copOf o)) (rD2 G fun d e => (cmpD o d e).map .bl) := by
  intro pins s0 σ0 H x y v u Q I rx ry h
  obtain ⟨P, R, σ, s, d, e, z, rfl, bn, S, rd, re, ez, w⟩ := h
  simp only [Option.map_eq_some_iff] at ez
  obtain ⟨k, ek, rfl⟩ := ez
  have w' : Q (.bl k) R.H := w.here S bn Rep.bl
  have eqCase : ∀ {b : Bool}, eqD d e = some b → (scal x y = true ∧ decide (x = y) = b) ∨ (Dp X.K R.H x (toP d) ∧ Dp X.K R.H y (toP e) ∧ SeqAt.shaped (toP d) = true ∧ SeqAt.shaped (toP e) = true ∧ PyData.eqv (toP d) (toP e) = b) := fun {b} hb => by
    unfold eqD at hb
    split at hb
    · rename_i hc
      cases hb
      rcases Bool.or_eq_true_iff.mp hc with hc | hc
      · exact .inl (scal_rep hc rd re)
      · obtain ⟨h1, h2⟩ := Bool.and_eq_true_iff.mp hc
        exact .inr ⟨plain_dpW hK h1 rd, plain_dpW hK h2 re, plain_shaped h1, plain_shaped h2, eqv_toP 60 d e h1 h2⟩
    · cases hb
  cases o with
  | eq =>
    rcases eqCase ek with ⟨h1, h2⟩ | ⟨h1, h2, h3, h4, h5⟩
    · exact op_eq pins s0 σ0 _ x y v u Q I rx ry ⟨h1, by rw [h2]; exact w'⟩
    · exact op_eqD hu pins s0 σ0 _ x y v u Q I rx ry ⟨_, _, h1, h2, h3, h4, by rw [h5]; exact w'⟩
  | ne =>
    simp only [cmpD, Option.map_eq_some_iff] at ek
    obtain ⟨b, eb, rfl⟩ := ek
    rcases eqCase eb with ⟨h1, h2⟩ | ⟨h1, h2, h3, h4, h5⟩
    · exact op_ne pins s0 σ0 _ x y v u Q I rx ry ⟨h1, by rw [h2]; exact w'⟩
    · exact op_neD hu pins s0 σ0 _ x y v u Q I rx ry ⟨_, _, h1, h2, h3, h4, by rw [h5]; exact w'⟩
  | lt =>
    simp only [cmpD, ltD] at ek
    split at ek
    · cases ek; exact op_lt pins s0 σ0 _ x y v u Q I rx ry ⟨_, _, rd.int_inv, re.int_inv, w'⟩
    · cases ek
  | gt =>
    simp only [cmpD, ltD] at ek
    split at ek
    · cases ek; exact op_gt pins s0 σ0 _ x y v u Q I rx ry ⟨_, _, rd.int_inv, re.int_inv, w'⟩
    · cases ek
  | le =>
    simp only [cmpD, leD] at ek
    split at ek
    · cases ek; exact op_le pins s0 σ0 _ x y v u Q I rx ry ⟨_, _, rd.int_inv, re.int_inv, w'⟩
    · cases ek
  | ge =>
    simp only [cmpD, leD] at ek
    split at ek
    · cases ek; exact op_ge pins s0 σ0 _ x y v u Q I rx ry ⟨_, _, rd.int_inv, re.int_inv, w'⟩
    · cases ek
  | isin =>
    have key : ∃ p xs, y = .ref p ∧ (SqL X.K R.H p xs ∨ SqT X.K R.H p xs) ∧ flatV x = true ∧ xs.all flatV = true ∧ inV x xs = k := by
      simp only [cmpD, inD] at ek
      split at ek
      · split at ek
        · rename_i hc
          cases ek
          obtain ⟨f1, f2⟩ := Bool.and_eq_true_iff.mp hc
          obtain ⟨p, xs, rfl, h1, h2⟩ := re.lst_inv
          exact ⟨p, xs, rfl, .inl (.inl h1), (flat_rep f1 rd).1, all_flat f2 h2, any_eqv f1 rd f2 h2⟩
        · cases ek
      · split at ek
        · rename_i hc
          cases ek
          obtain ⟨f1, f2⟩ := Bool.and_eq_true_iff.mp hc
          obtain ⟨p, xs, rfl, h1, h2⟩ := re.tup_inv
          exact ⟨p, xs, rfl, .inr (by rw [hK]; exact h1), (flat_rep f1 rd).1, all_flat f2 h2, any_eqv f1 rd f2 h2⟩
        · cases ek
      · cases ek
    obtain ⟨p, xs, e1, h1, h2, h3, h4⟩ := key
    exact op_in_seq pins s0 σ0 _ x y v u Q I rx ry ⟨p, xs, e1, h1, h2, h3, by simpa [h4] using w'⟩
  | notin =>
    have key : ∃ p xs, y = .ref p ∧ (SqL X.K R.H p xs ∨ SqT X.K R.H p xs) ∧ flatV x = true ∧ xs.all flatV = true ∧ (!inV x xs) = k := by
      simp only [cmpD, inD, Option.map_eq_some_iff] at ek
      obtain ⟨b, eb, rfl⟩ := ek
      split at eb
      · split at eb
        · rename_i hc
          cases eb
          obtain ⟨f1, f2⟩ := Bool.and_eq_true_iff.mp hc
          obtain ⟨p, xs, rfl, h1, h2⟩ := re.lst_inv
          exact ⟨p, xs, rfl, .inl (.inl h1), (flat_rep f1 rd).1, all_flat f2 h2, by rw [any_eqv f1 rd f2 h2]⟩
        · cases eb
      · split at eb
        · rename_i hc
          cases eb
          obtain ⟨f1, f2⟩ := Bool.and_eq_true_iff.mp hc
          obtain ⟨p, xs, rfl, h1, h2⟩ := re.tup_inv
          exact ⟨p, xs, rfl, .inr (by rw [hK]; exact h1), (flat_rep f1 rd).1, all_flat f2 h2, by rw [any_eqv f1 rd f2 h2]⟩
        · cases eb
      · cases eb
    obtain ⟨p, xs, e1, h1, h2, h3, h4⟩ := key
    exact op_notIn_seq pins s0 σ0 _ x y v u Q I rx ry ⟨p, xs, e1, h1, h2, h3, by simpa [h4] using w'⟩
end
end Dn

/-! PyPrim2: is, subscripts, slices, built-in functions, isinstance. -/
namespace Dn
open PySem L2
section
variable {X : Cx} {G : Gm}
/-! ### is -/
theorem isNon_iff {R : Rl} {d : D} {x : V} (r : Rep G R d x) : decide (x = .non) = decide (d = .non) := by
  cases d <;> unfold Rep at r
  case non => subst r; rfl
  case bl => subst r; rfl
  case int => subst r; rfl
  case str => subst r; rfl
  case ty => subst r; rfl
  case tup => obtain ⟨a, xs, e, _⟩ := r; subst e; rfl
  case lst => obtain ⟨a, xs, e, _⟩ := r; subst e; rfl
  case ins => obtain ⟨a, dx, xs, e, _⟩ := r; subst e; rfl
  case ref => obtain ⟨a, e, _⟩ := r; subst e; rfl
  case cls => subst r; rfl
  case slt => exact r.elim
theorem isBl_iff {R : Rl} {d : D} {x : V} {b : Bool} (r : Rep G R d x) : decide (x = .bl b) = decide (d = .bl b) := by
  cases d <;> unfold Rep at r
  case non => subst r; rfl
  case bl c => subst r; simp
  case int => subst r; rfl
  case str => subst r; rfl
  case ty => subst r; rfl
  case tup => obtain ⟨a, xs, e, _⟩ := r; subst e; rfl
  case lst => obtain ⟨a, xs, e, _⟩ := r; subst e; rfl
  case ins => obtain ⟨a, dx, xs, e, _⟩ := r; subst e; rfl
  case ref => obtain ⟨a, e, _⟩ := r; subst e; rfl
  case cls => subst r; rfl
  case slt => exact r.elim
theorem relV_bl {x : V} {v : Value} {b : Bool} (r : RelV x v) : (v == Value.bool b) = decide (x = .bl b) := by
  cases x with
  | non => cases r; rfl
  | bl c => cases r; cases b <;> cases c <;> rfl
  | int _ => obtain ⟨t, rfl⟩ := r; rfl
  | str _ => obtain ⟨t, rfl⟩ := r; rfl
  | byt _ => obtain ⟨t, rfl⟩ := r; rfl
  | flt _ => obtain ⟨t, rfl⟩ := r; rfl
  | ref _ => cases r; rfl
  | ty _ => cases r; rfl
theorem plainIs_bl {x : V} {v : Value} {b : Bool} (r : RelV x v) : plainIs v (.bool b) = true := by
  cases x with
  | non => cases r; rfl
  | bl c => cases r; rfl
  | int _ => obtain ⟨t, rfl⟩ := r; rfl
  | str _ => obtain ⟨t, rfl⟩ := r; rfl
  | byt _ => obtain ⟨t, rfl⟩ := r; rfl
  | flt _ => obtain ⟨t, rfl⟩ := r; rfl
  | ref _ => cases r; rfl
  | ty _ => cases r; rfl
def rIs (G : Gm) (ng : Bool) : R2 := fun x y H Q => ∃ P R σ s d k c, R.H = H ∧ Bnd H ∧ SR G P R σ s ∧ RepB G R σ d x ∧ RepB G R σ k y ∧ isD d k = some c ∧ Wn G P R σ s (.bl (if ng then !c else c)) Q
theorem op_isc (ng : Bool) : OpR X (compareOp (if ng then .IsNot else .Is)) (rIs G ng) := by
  intro pins s0 σ0 H x y v u Q I rx ry h
  obtain ⟨P, R, σ, s, d, k, c, rfl, bn, S, rd, rk, ez, w⟩ := h
  have w' := w.here S bn Rep.bl
  have rd' : Rep G R d x := by
    cases d with
    | slt i => cases k <;> simp [isD] at ez
    | _ => exact rd
  cases k with
  | non =>
    have e : y = .non := by have h : Rep G R .non y := rk; unfold Rep at h; exact h
    subst e
    have ec : c = decide (x = .non) := by
      rw [isNon_iff rd']
      cases d <;> simp only [isD, Option.some.injEq] at ez <;> first | exact ez.symm | cases ez
    subst ec
    cases ng with
    | false => exact op_isN pins s0 σ0 _ x _ v u Q I rx ry ⟨rfl, w'⟩
    | true => exact op_notN pins s0 σ0 _ x _ v u Q I rx ry ⟨rfl, w'⟩
  | bl b =>
    have e : y = .bl b := by have h : Rep G R (.bl b) y := rk; unfold Rep at h; exact h
    subst e
    have ec : c = decide (x = .bl b) := by
      rw [isBl_iff rd']
      cases d <;> simp only [isD, Option.some.injEq] at ez <;> first | exact ez.symm | cases ez
    subst ec
    cases (show u = Value.bool b from ry)
    cases ng with
    | false => exact wpAny_is_plain (plainIs_bl rx) ⟨.bl _, R.H, I, by rw [relV_bl rx]; rfl, w'⟩
    | true => exact wpAny_isNot_plain (plainIs_bl rx) ⟨.bl _, R.H, I, by rw [relV_bl rx]; rfl, w'⟩
  | _ => simp [isD] at ez

/-! ### subscripts, slices -/
theorem atI_eq {α : Type} (xs : List α) (i : Int) : L2.atI xs i = Dn.atI xs i := by
  unfold L2.atI Dn.atI L2.ixN
  by_cases h0 : 0 ≤ i
  · rw [if_pos h0, if_pos h0]
    by_cases h1 : i < xs.length
    · rw [if_pos h1]; rfl
    · rw [if_neg h1, List.getElem?_eq_none (by omega)]; rfl
  · rw [if_neg h0, if_neg h0]
    by_cases h1 : -(xs.length : Int) ≤ i
    · rw [if_pos h1, if_pos h1]; rfl
    · rw [if_neg h1, if_neg h1]; rfl
theorem Reps.at {R : Rl} {ds : List D} {xs : List V} {i : Int} {d : D} (r : Reps G R ds xs) (h : Dn.atI ds i = some d) : ∃ x, L2.atI xs i = some x ∧ Rep G R d x := by
  rw [atI_eq]
  unfold Dn.atI at h ⊢
  rw [r.length]
  split at h
  · rename_i h0
    rw [if_pos h0]; exact r.get h
  · rename_i h0
    rw [if_neg h0]
    split at h
    · rename_i h1
      rw [if_pos h1]; exact r.get h
    · cases h
theorem ix_D (hK : X.K = G.K) : IxR X (rD2 G idxD) := by
  intro a b pins s0 σ0 H x y v u Q I rx ry h hs
  obtain ⟨P, R, σ, s, d, e, z, rfl, bn, S, rd, re, ez, w⟩ := h
  unfold idxD at ez
  split at ez
  · obtain ⟨p, xs, rfl, h1, h2⟩ := rd.lst_inv
    obtain ⟨x', h3, h4⟩ := h2.at ez
    exact ix_list a b pins s0 σ0 _ _ y v u Q I rx ry ⟨p, xs, _, x', rfl, re.int_inv, .inl h1, h3, w.here S bn h4⟩ hs
  · obtain ⟨p, xs, rfl, h1, h2⟩ := rd.tup_inv
    obtain ⟨x', h3, h4⟩ := h2.at ez
    exact ix_tup a b pins s0 σ0 _ _ y v u Q I rx ry ⟨p, xs, _, x', rfl, re.int_inv, by rw [hK]; exact h1, h3, w.here S bn h4⟩ hs
  · cases ez
theorem sIx_eq (n d : Nat) (o : Option Int) : sIx n d o = HT.sIx n d o := by cases o <;> rfl
theorem Reps.cut {R : Rl} {ds : List D} {xs : List V} (r : Reps G R ds xs) (a b : Nat) : Reps G R (Dn.cut ds a b) ((xs.drop a).take (b - a)) := (r.drop a).take _
def rSlc (G : Gm) : V → Option Int → Option Int → Hp → VK → Prop := fun x lo hi H Q => ∃ P R σ s d v, R.H = H ∧ Bnd H ∧ SR G P R σ s ∧ RepW G R d x ∧ slcD d lo hi = some v ∧ Wn G P R σ s v Q
theorem sl_D (hK : X.K = G.K) : L2.SlR X (rSlc G) := by
  intro pins s0 σ0 H x v vl vu lo hi sl Q I rx hs pl pu h
  obtain ⟨P, R, σ, s, d, z, rfl, bn, S, rd, ez, w⟩ := h
  unfold slcD at ez
  split at ez
  · rename_i ds
    obtain ⟨p, xs, rfl, h1, h2⟩ := rd.lst_inv
    simp only [Option.some.injEq] at ez
    subst ez
    refine SlR.bnd sl_list pins s0 σ0 _ _ v vl vu lo hi sl Q I rx hs pl pu ⟨p, xs, rfl, .inl h1, fun q hq b => ?_⟩
    rw [show cutV xs lo hi = (xs.drop (sIx ds.length 0 lo)).take (sIx ds.length ds.length hi - sIx ds.length 0 lo) by rw [← h2.length, sIx_eq, sIx_eq]; rfl] at b ⊢
    exact w.fresh S hq b (Rep.new_lst S hq (h2.cut _ _))
  · rename_i ds
    obtain ⟨p, xs, rfl, h1, h2⟩ := rd.tup_inv
    simp only [Option.some.injEq] at ez
    subst ez
    refine SlR.bnd sl_tupA pins s0 σ0 _ _ v vl vu lo hi sl Q I rx hs pl pu ⟨p, xs, rfl, by rw [hK]; exact h1, fun q b => ?_, fun _ q hq b => ?_⟩
    · rw [h2.length, ← sIx_eq, ← sIx_eq] at q
      rw [q.1, q.2] at w
      have e0 : Dn.cut ds 0 ds.length = ds := by unfold Dn.cut; simp
      rw [e0] at w
      exact w.here S bn rd
    · rw [show cutV xs lo hi = (xs.drop (sIx ds.length 0 lo)).take (sIx ds.length ds.length hi - sIx ds.length 0 lo) by rw [← h2.length, sIx_eq, sIx_eq]; rfl] at b ⊢
      exact w.fresh S hq b (Rep.new_tup S hq (h2.cut _ _))
  · cases ez

/-! ### built-in functions -/
def RepWs (G : Gm) (R : Rl) : List D → List V → Prop
  | [], xs => xs = []
  | d :: r, xs => ∃ y ys, xs = y :: ys ∧ RepW G R d y ∧ RepWs G R r ys
def rDN (G : Gm) (f : List D → Option D) : List V → Hp → VK → Prop := fun xs H Q => ∃ P R σ s ds v, R.H = H ∧ Bnd H ∧ SR G P R σ s ∧ RepWs G R ds xs ∧ f ds = some v ∧ Wn G P R σ s v Q
theorem RepWs.one {R : Rl} {d : D} {xs : List V} (h : RepWs G R [d] xs) : ∃ x, xs = [x] ∧ RepW G R d x := by
  obtain ⟨y, ys, e, h1, h2⟩ := h
  have h2' : ys = [] := h2
  subst h2' e
  exact ⟨y, rfl, h1⟩
theorem RepWs.two {R : Rl} {d e : D} {xs : List V} (h : RepWs G R [d, e] xs) : ∃ x y, xs = [x, y] ∧ RepW G R d x ∧ RepW G R e y := by
  obtain ⟨y, ys, e, h1, h2⟩ := h
  obtain ⟨z, rfl, h3⟩ := RepWs.one h2
  exact ⟨y, z, e, h1, h3⟩
theorem RepWs.three {R : Rl} {d e f : D} {xs : List V} (h : RepWs G R [d, e, f] xs) : ∃ x y z, xs = [x, y, z] ∧ RepW G R d x ∧ RepW G R e y ∧ RepW G R f z := by
  obtain ⟨y, ys, e, h1, h2⟩ := h
  obtain ⟨a, b, rfl, h3, h4⟩ := RepWs.two h2
  exact ⟨y, a, b, e, h1, h3, h4⟩
theorem insSort_perm (x : Int) : ∀ xs : List Int, (insSort x xs).Perm (x :: xs)
  | [] => .refl _
  | y :: r => by
    unfold insSort
    split
    · exact .refl _
    · exact (List.Perm.cons y (insSort_perm x r)).trans (List.Perm.swap x y r)
theorem sortI_perm : ∀ xs : List Int, (sortI xs).Perm xs
  | [] => .refl _
  | x :: r => (insSort_perm x _).trans ((sortI_perm r).cons x)
theorem insSort_srt (x : Int) : ∀ xs : List Int, xs.Pairwise (· ≤ ·) → (insSort x xs).Pairwise (· ≤ ·)
  | [], _ => by simp [insSort]
  | y :: r, h => by
    unfold insSort
    have h' := List.pairwise_cons.mp h
    split
    · rename_i hxy
      refine List.pairwise_cons.mpr ⟨fun z hz => ?_, h⟩
      rcases List.mem_cons.mp hz with rfl | hz
      · exact hxy
      · exact Int.le_trans hxy (h'.1 z hz)
    · rename_i hxy
      refine List.pairwise_cons.mpr ⟨fun z hz => ?_, insSort_srt x r h'.2⟩
      rcases List.mem_cons.mp ((insSort_perm x r).mem_iff.mp hz) with rfl | hz
      · omega
      · exact h'.1 z hz
theorem sortI_srt : ∀ xs : List Int, (sortI xs).Pairwise (· ≤ ·)
  | [] => List.Pairwise.nil
  | x :: r => insSort_srt x _ (sortI_srt r)
theorem sorted_same {a b : List Int} (hp : a.Perm b) (ha : a.Pairwise (· ≤ ·)) (hb : b.Pairwise (· ≤ ·)) : a = b := hp.eq_of_pairwise (fun x y _ _ h1 h2 => Int.le_antisymm h1 h2) ha hb
theorem sortI_of {xs ys : List Int} (p : ys.Perm xs) (h : ys.Pairwise (· ≤ ·)) : ys = sortI xs := sorted_same (p.trans (sortI_perm xs).symm) h (sortI_srt xs)
theorem maxI_spec : ∀ (r : List Int) (m : Int), maxI m r ∈ m :: r ∧ ∀ y ∈ m :: r, y ≤ maxI m r
  | [], m => ⟨List.mem_singleton.mpr rfl, fun y h => by rw [List.mem_singleton.mp h]; exact Int.le_refl _⟩
  | x :: r, m => by
    show maxI (if x > m then x else m) r ∈ _ ∧ ∀ y ∈ m :: x :: r, y ≤ maxI (if x > m then x else m) r
    have ht : ((if x > m then x else m) = x ∨ (if x > m then x else m) = m) ∧ x ≤ (if x > m then x else m) ∧ m ≤ (if x > m then x else m) := by split <;> omega
    generalize (if x > m then x else m) = t at ht
    obtain ⟨h1, h2⟩ := maxI_spec r t
    have h3 := h2 _ List.mem_cons_self
    refine ⟨?_, fun y hy => ?_⟩
    · rcases List.mem_cons.mp h1 with e | h
      · rw [e]; rcases ht.1 with e | e <;> rw [e] <;> simp
      · exact List.mem_cons_of_mem _ (List.mem_cons_of_mem _ h)
    · rcases List.mem_cons.mp hy with rfl | hy
      · omega
      · rcases List.mem_cons.mp hy with rfl | hy
        · omega
        · exact h2 y (List.mem_cons_of_mem _ hy)
theorem minI_spec : ∀ (r : List Int) (m : Int), minI m r ∈ m :: r ∧ ∀ y ∈ m :: r, minI m r ≤ y
  | [], m => ⟨List.mem_singleton.mpr rfl, fun y h => by rw [List.mem_singleton.mp h]; exact Int.le_refl _⟩
  | x :: r, m => by
    show minI (if x < m then x else m) r ∈ _ ∧ ∀ y ∈ m :: x :: r, minI (if x < m then x else m) r ≤ y
    have ht : ((if x < m then x else m) = x ∨ (if x < m then x else m) = m) ∧ (if x < m then x else m) ≤ x ∧ (if x < m then x else m) ≤ m := by split <;> omega
    generalize (if x < m then x else m) = t at ht
    obtain ⟨h1, h2⟩ := minI_spec r t
    have h3 := h2 _ List.mem_cons_self
    refine ⟨?_, fun y hy => ?_⟩
    · rcases List.mem_cons.mp h1 with e | h
      · rw [e]; rcases ht.1 with e | e <;> rw [e] <;> simp
      · exact List.mem_cons_of_mem _ (List.mem_cons_of_mem _ h)
    · rcases List.mem_cons.mp hy with rfl | hy
      · omega
      · rcases List.mem_cons.mp hy with rfl | hy
        · omega
        · exact h2 y (List.mem_cons_of_mem _ hy)
theorem nuMin2_int (a b : Int) : nuMin2 (.int a) (.int b) = some (.int (if b < a then b else a)) := by
  show some (if decide (b < a) = true then V.int b else V.int a) = _
  by_cases h : b < a <;> simp [h]
theorem nuMin3_int (a b c : Int) : nuMin3 (.int a) (.int b) (.int c) = some (.int (minI a [b, c])) := by
  unfold nuMin3
  rw [nuMin2_int, Option.bind_some, nuMin2_int]; rfl
theorem nuMax2_int (a b : Int) : nuMax2 (.int a) (.int b) = some (.int (if b > a then b else a)) := by
  show some (if decide (a < b) = true then V.int b else V.int a) = _
  by_cases h : a < b <;> simp [h]
theorem nuMax3_int (a b c : Int) : nuMax3 (.int a) (.int b) (.int c) = some (.int (maxI a [b, c])) := by
  unfold nuMax3
  rw [nuMax2_int, Option.bind_some, nuMax2_int]; rfl
def biVal : Bi → Value
  | .len => .builtin "len" | .all => .builtin "all" | .any => .builtin "any" | .sum => .builtin "sum" | .min => .builtin "min" | .max => .builtin "max"
  | .sorted => .builtin "sorted" | .abs => .builtin "abs" | .int => .type "int" | .tuple => .type "tuple" | .list => .type "list"
theorem cr_bi (f : Bi) (hK : X.K = G.K) (hc : X.calm = true) : CallR X (biVal f) (rDN G (biD f)) := by
  intro pins s0 σ0 H xs us Q I rs h
  obtain ⟨P, R, σ, s, ds, z, rfl, bn, S, rd, ez, w⟩ := h
  unfold biD at ez
  split at ez
  · -- len
    rename_i d
    obtain ⟨x, rfl, h1⟩ := rd.one
    simp only [Option.map_eq_some_iff] at ez
    obtain ⟨es, e1, rfl⟩ := ez
    have w' := w.here S bn Rep.int
    cases d <;> simp [D.seq?] at e1 <;> subst e1
    · obtain ⟨a, ys, rfl, h2, h3⟩ := h1.tup_inv
      exact call_len pins s0 σ0 _ _ us Q I rs ⟨_, _, rfl, .inr ⟨ys, by rw [hK]; exact h2, rfl⟩, by rw [h3.length]; exact w'⟩
    · obtain ⟨a, ys, rfl, h2, h3⟩ := h1.lst_inv
      exact call_len pins s0 σ0 _ _ us Q I rs ⟨_, _, rfl, .inl ⟨ys, .inl h2, rfl⟩, by rw [h3.length]; exact w'⟩
  · -- all
    obtain ⟨x, rfl, h1⟩ := rd.one
    simp only [Option.map_eq_some_iff] at ez
    obtain ⟨bs, e1, rfl⟩ := ez
    obtain ⟨a, ys, rfl, h2, h3⟩ := h1.lst_inv
    exact cr_all hc pins s0 σ0 _ _ us Q I rs ⟨a, bs, rfl, .inl (by rw [← h3.bls e1]; exact h2), w.here S bn Rep.bl⟩
  · obtain ⟨x, rfl, h1⟩ := rd.one
    simp only [Option.map_eq_some_iff] at ez
    obtain ⟨bs, e1, rfl⟩ := ez
    obtain ⟨a, ys, rfl, h2, h3⟩ := h1.lst_inv
    exact cr_any hc pins s0 σ0 _ _ us Q I rs ⟨a, bs, rfl, .inl (by rw [← h3.bls e1]; exact h2), w.here S bn Rep.bl⟩
  · -- sum
    obtain ⟨x, rfl, h1⟩ := rd.one
    simp only [Option.map_eq_some_iff] at ez
    obtain ⟨bs, e1, rfl⟩ := ez
    obtain ⟨a, ys, rfl, h2, h3⟩ := h1.lst_inv
    exact cr_sum hc pins s0 σ0 _ _ us Q I rs ⟨a, bs, rfl, .inl (by rw [← h3.ints e1]; exact h2), w.here S bn Rep.int⟩
  · -- min
    obtain ⟨x, rfl, h1⟩ := rd.one
    simp only [Option.bind_eq_some_iff] at ez
    obtain ⟨bs, e1, e2⟩ := ez
    obtain ⟨a, ys, rfl, h2, h3⟩ := h1.lst_inv
    cases bs with
    | nil => cases e2
    | cons m r =>
      cases e2
      refine cr_min hc pins s0 σ0 _ _ us Q I rs ⟨a, m :: r, rfl, .inl (by rw [← h3.ints e1]; exact h2), Nat.succ_pos _, fun k h4 h5 => ?_⟩
      obtain ⟨h6, h7⟩ := minI_spec r m
      have e : k = minI m r := Int.le_antisymm (h5 _ h6) (h7 k h4)
      rw [e]; exact w.here S bn Rep.int
  · -- max
    obtain ⟨x, rfl, h1⟩ := rd.one
    simp only [Option.bind_eq_some_iff] at ez
    obtain ⟨bs, e1, e2⟩ := ez
    obtain ⟨a, ys, rfl, h2, h3⟩ := h1.lst_inv
    cases bs with
    | nil => cases e2
    | cons m r =>
      cases e2
      refine cr_max hc pins s0 σ0 _ _ us Q I rs ⟨a, m :: r, rfl, .inl (by rw [← h3.ints e1]; exact h2), Nat.succ_pos _, fun k h4 h5 => ?_⟩
      obtain ⟨h6, h7⟩ := maxI_spec r m
      have e : k = maxI m r := Int.le_antisymm (h7 k h4) (h5 _ h6)
      rw [e]; exact w.here S bn Rep.int
  · obtain ⟨x, y, rfl, h1, h2⟩ := rd.two
    cases ez
    exact call_min2 hc pins s0 σ0 _ _ us Q I rs ⟨_, _, by rw [h1.int_inv, h2.int_inv], w.here S bn Rep.int⟩
  · obtain ⟨x, y, rfl, h1, h2⟩ := rd.two
    cases ez
    exact call_max2 hc pins s0 σ0 _ _ us Q I rs ⟨_, _, by rw [h1.int_inv, h2.int_inv], w.here S bn Rep.int⟩
  · obtain ⟨x, y, z, rfl, h1, h2, h3⟩ := rd.three
    cases ez
    refine call_min3Nu hc pins s0 σ0 _ _ us Q I rs ⟨_, _, _, _, rfl, ?_, w.here S bn Rep.int⟩
    rw [h1.int_inv, h2.int_inv, h3.int_inv]
    exact nuMin3_int _ _ _
  · obtain ⟨x, y, z, rfl, h1, h2, h3⟩ := rd.three
    cases ez
    refine call_max3Nu hc pins s0 σ0 _ _ us Q I rs ⟨_, _, _, _, rfl, ?_, w.here S bn Rep.int⟩
    rw [h1.int_inv, h2.int_inv, h3.int_inv]
    exact nuMax3_int _ _ _
  · -- sorted
    obtain ⟨x, rfl, h1⟩ := rd.one
    simp only [Option.map_eq_some_iff] at ez
    obtain ⟨bs, e1, rfl⟩ := ez
    obtain ⟨a, ys, rfl, h2, h3⟩ := h1.lst_inv
    refine CallR.bnd cr_sortedI pins s0 σ0 _ _ us Q I rs ⟨a, bs, rfl, .inl (by rw [← h3.ints e1]; exact h2), fun ns p hp hs hn b => ?_⟩
    have e := sortI_of hp hs
    subst e
    exact w.fresh S hn b (Rep.new_lst S hn (Reps.of_ints _))
  · obtain ⟨x, rfl, h1⟩ := rd.one
    simp only [Option.map_eq_some_iff] at ez
    obtain ⟨bs, e1, rfl⟩ := ez
    obtain ⟨a, ys, rfl, h2, h3⟩ := h1.tup_inv
    refine CallR.bnd cr_srtT pins s0 σ0 _ _ us Q I rs ⟨a, bs, rfl, by rw [hK, ← h3.ints e1]; exact h2, fun ns p hp hs hn b => ?_⟩
    have e := sortI_of hp hs
    subst e
    exact w.fresh S hn b (Rep.new_lst S hn (Reps.of_ints _))
  · obtain ⟨x, rfl, h1⟩ := rd.one
    cases ez
    exact call_abs pins s0 σ0 _ _ us Q I rs ⟨_, by rw [h1.int_inv], w.here S bn Rep.int⟩
  · obtain ⟨x, rfl, h1⟩ := rd.one
    cases ez
    exact call_int1 pins s0 σ0 _ _ us Q I rs (.inl ⟨_, by rw [h1.int_inv], w.here S bn Rep.int⟩)
  · obtain ⟨x, rfl, h1⟩ := rd.one
    cases ez
    exact call_int1 pins s0 σ0 _ _ us Q I rs (.inr ⟨_, by rw [h1.bl_inv], w.here S bn Rep.int⟩)
  · obtain ⟨x, rfl, h1⟩ := rd.one
    cases ez
    obtain ⟨a, ys, rfl, h2, h3⟩ := h1.lst_inv
    exact CallR.bnd call_tuple_of pins s0 σ0 _ _ us Q I rs ⟨a, ys, rfl, .inl ⟨.inl h2, fun l hl b => w.fresh S hl b (Rep.new_tup S hl h3)⟩⟩
  · obtain ⟨x, rfl, h1⟩ := rd.one
    cases ez
    obtain ⟨a, ys, rfl, h2, h3⟩ := h1.tup_inv
    exact CallR.bnd call_tuple_of pins s0 σ0 _ _ us Q I rs ⟨a, ys, rfl, .inr ⟨by rw [hK]; exact h2, fun b => w.here S b h1⟩⟩
  · obtain ⟨x, rfl, h1⟩ := rd.one
    cases ez
    obtain ⟨a, ys, rfl, h2, h3⟩ := h1.lst_inv
    exact CallR.bnd call_list_of pins s0 σ0 _ _ us Q I rs ⟨a, ys, rfl, .inl (.inl h2), fun l hl b => w.fresh S hl b (Rep.new_lst S hl h3)⟩
  · obtain ⟨x, rfl, h1⟩ := rd.one
    cases ez
    obtain ⟨a, ys, rfl, h2, h3⟩ := h1.tup_inv
    exact CallR.bnd call_list_of pins s0 σ0 _ _ us Q I rs ⟨a, ys, rfl, .inr (by rw [hK]; exact h2), fun l hl b => w.fresh S hl b (Rep.new_lst S hl h3)⟩
  · cases ez
end
end Dn

/-! PyMut: what changes: lists of one's own and of the store, fields; isinstance. -/
namespace Dn
open PySem L2
section
variable {X : Cx} {G : Gm} {P : Addr → Prop} {R : Rl} {σ : L2.St} {s : St}
/-- an object of one's own or of the store at l turns into o' -/
theorem Stp.chg {l : Addr} {o' : HO} (hav : R.Av l) (hnp : ¬ P l) (hp : ∀ a, P a → R.Av a) : Stp P R { R with H := upd R.H l o' } := by
  refine ⟨fun _ _ h => h, fun a o e n => ⟨?_, n⟩, fun a o p e => ⟨?_, hp a p⟩⟩
  · show upd R.H l o' a = some o
    rw [upd_ne]; exact e
    rintro rfl; exact n hav
  · show upd R.H l o' a = some o
    rw [upd_ne]; exact e
    rintro rfl; exact hnp p
theorem S0.avChg {S : List Ob} (h : S0 G P R S) {l : Addr} {o' : HO} : ∀ a, R.Av a → upd R.H l o' a ≠ none := fun a q => by
  by_cases e : a = l
  · subst e; rw [upd_same]; exact fun z => nomatch z
  · rw [upd_ne e]; exact h.av a q
theorem SlotOk.chg {l : Addr} {o' : HO} (st : Stp P R { R with H := upd R.H l o' }) {x : Option (Option V)} {sl : Slot} (h : SlotOk G P R x sl) (hn : sl.isOwn = true → x ≠ some (some (.ref l))) : SlotOk G P { R with H := upd R.H l o' } x sl := by
  cases sl with
  | emp => trivial
  | val d => obtain ⟨v, e, r⟩ := h; exact ⟨v, e, r.mono st⟩
  | own ds =>
    obtain ⟨a, xs, e, h1, h2, h3⟩ := h
    exact ⟨a, xs, e, (by show upd R.H l o' a = _; rw [upd_ne (fun z => hn rfl (by rw [e, z]))]; exact h1), h2.mono st, h3⟩
  | owni c fs =>
    obtain ⟨a, dx, xs, e, h1, hl, h2, h3⟩ := h
    exact ⟨a, dx, xs, e, (by show upd R.H l o' a = _; rw [upd_ne (fun z => hn rfl (by rw [e, z]))]; exact h1), hl, h2.mono st, h3⟩
theorem Owns.lt {env : List Slot} {i : Nat} {a : Addr} (h : Owns env σ i a) : i < env.length := by
  obtain ⟨⟨sl, e, _⟩, _⟩ := h
  exact (List.getElem?_eq_some_iff.mp e).1
/-- slot i's own object at l turns into o', its slot into sl' -/
theorem SR.chgOwn (S : SR G P R σ s) {i : Nat} {sl sl' : Slot} {l : Addr} {o' : HO} (e : s.env[i]? = some sl) (ho : sl.isOwn = true) (hi : σ[i]? = some (some (.ref l))) (hav : R.Av l) (hnp : ¬ P l) (hnr : ∀ r, R.ρ r ≠ some l)
    (ho' : sl'.isOwn = true) (hs : SlotOk G P { R with H := upd R.H l o' } (some (some (.ref l))) sl') : Stp P R { R with H := upd R.H l o' } ∧ SR G P { R with H := upd R.H l o' } σ (s.put i sl') := by
  have st : Stp P R { R with H := upd R.H l o' } := Stp.chg hav hnp S.st.pr
  have hlt : i < s.env.length := (List.getElem?_eq_some_iff.mp e).1
  have own_i : Owns s.env σ i l := ⟨⟨sl, e, ho⟩, hi⟩
  refine ⟨st, ⟨⟨fun r o q => ?_, S.st.dom, S.st.inj, S.st.avChg, S.st.pr⟩, ?_, fun j sj q => ?_, fun j k a h1 h2 => ?_⟩⟩
  · obtain ⟨a, e1, h⟩ := S.st.sto r o q
    refine ⟨a, e1, h.mono st ?_⟩
    show upd R.H l o' a = R.H a
    rw [upd_ne]; rintro rfl; exact hnr r e1
  · show (s.env.set i sl').length = σ.length
    rw [List.length_set]; exact S.len
  · have q' : (s.env.set i sl')[j]? = some sj := q
    by_cases hj : i = j
    · subst hj
      rw [List.getElem?_set_self hlt] at q'
      cases q'
      rw [hi]; exact hs
    · rw [List.getElem?_set_ne hj] at q'
      refine (S.slot j sj q').chg st fun hown z => ?_
      exact hj (S.own i j l own_i ⟨⟨sj, q', hown⟩, z⟩)
  · have back : ∀ m, Owns (s.env.set i sl') σ m a → Owns s.env σ m a := fun m ⟨⟨sm, q, hm⟩, z⟩ => by
      by_cases hmi : i = m
      · subst hmi; exact ⟨⟨sl, e, ho⟩, z⟩
      · rw [List.getElem?_set_ne hmi] at q; exact ⟨⟨sm, q, hm⟩, z⟩
    exact S.own j k a (back j h1) (back k h2)
/-- the store's object r at l turns into o', ob' -/
theorem SR.chgRef (S : SR G P R σ s) {r : Nat} {ob' : Ob} {l : Addr} {o' : HO} (e : R.ρ r = some l) (hs : ObjRel G { R with H := upd R.H l o' } l ob') :
    Stp P R { R with H := upd R.H l o' } ∧ SR G P { R with H := upd R.H l o' } σ { s with sto := s.sto.set r ob' } := by
  obtain ⟨hlt, hav, hnp⟩ := S.st.dom r l e
  have st : Stp P R { R with H := upd R.H l o' } := Stp.chg hav hnp S.st.pr
  refine ⟨st, ⟨⟨fun m o q => ?_, fun m a q => ?_, S.st.inj, S.st.avChg, S.st.pr⟩, S.len, fun j sj q => ?_, S.own⟩⟩
  · by_cases hm : r = m
    · subst hm
      have q' : (s.sto.set r ob')[r]? = some o := q
      rw [List.getElem?_set_self hlt] at q'
      cases q'
      exact ⟨l, e, hs⟩
    · have q' : (s.sto.set r ob')[m]? = some o := q
      rw [List.getElem?_set_ne hm] at q'
      obtain ⟨a, e1, h⟩ := S.st.sto m o q'
      refine ⟨a, e1, h.mono st ?_⟩
      show upd R.H l o' a = R.H a
      rw [upd_ne]; rintro rfl; exact hm (S.st.inj r m a e e1)
  · show m < (s.sto.set r ob').length ∧ _
    rw [List.length_set]; exact S.st.dom m a q
  · refine (S.slot j sj q).chg st fun hown z => ?_
    have h := S.slot j sj q
    cases sj with
    | own ds => obtain ⟨a, xs, e1, _, _, _, _, h3⟩ := h; rw [e1] at z; cases z; exact h3 r e
    | owni c fs => obtain ⟨a, dx, xs, e1, _, _, _, _, _, h3⟩ := h; rw [e1] at z; cases z; exact h3 r e
    | _ => cases hown
/-- a list is put -/
theorem put_ok (S : SR G P R σ s) {u : D} {x : V} {es : List D} {s' : St} (h : putList u es s = .ok () s') (ru : RepB G R σ u x) {ds : List D} (hv : view s u = .lst ds) :
    ∃ l xs, x = .ref l ∧ R.H l = some (.lst xs) ∧ Reps G R ds xs ∧ ∀ ys, Reps G R es ys → Stp P R { R with H := upd R.H l (.lst ys) } ∧ SR G P { R with H := upd R.H l (.lst ys) } σ s' := by
  unfold putList at h
  cases u with
  | slt i =>
    simp only at h
    split at h
    · rename_i ds' e
      cases h
      have hv' : ds' = ds := by simpa [view, e] using hv
      subst hv'
      have ru' : σ[i]? = some (some x) := ru
      obtain ⟨l, xs, e1, h1, h2, h3, h4, h5⟩ := S.slot i _ e
      rw [e1] at ru'
      cases ru'
      refine ⟨l, xs, rfl, h1, h2, fun ys hy => ?_⟩
      refine S.chgOwn (sl := .own ds') (sl' := .own es) e rfl e1 h3 h4 h5 rfl ?_
      exact ⟨l, ys, rfl, upd_same, hy.mono (Stp.chg h3 h4 S.st.pr), h3, h4, h5⟩
    · cases h
  | ref r =>
    simp only at h
    split at h
    · rename_i ds' e
      cases h
      have hv' : ds' = ds := by simpa [view, e] using hv
      subst hv'
      have ru' : Rep G R (.ref r) x := ru
      unfold Rep at ru'
      obtain ⟨l, rfl, e1⟩ := ru'
      obtain ⟨a, e2, xs, h1, h2⟩ := S.st.sto r _ e
      rw [e1] at e2; cases e2
      refine ⟨l, xs, rfl, h1, h2, fun ys hy => ?_⟩
      obtain ⟨hlt, hav, hnp⟩ := S.st.dom r l e1
      exact S.chgRef e1 ⟨ys, upd_same, hy.mono (Stp.chg hav hnp S.st.pr)⟩
    · cases h
  | _ => cases h

/-! ### methods of lists -/
def mtId : Mt → String
  | .append => "list.append" | .pop => "list.pop" | .lindex => "list.index"
/-- behind a changing operation -/
def Wm (G : Gm) (P : Addr → Prop) (R : Rl) (σ : L2.St) (s' : St) (d : D) (Q : VK) : Prop := ∀ x R', Stp P R R' → Bnd R'.H → SR G P R' σ s' → Rep G R' d x → Q x R'.H
def rMt (G : Gm) (m : Mt) : V → List V → Hp → VK → Prop := fun x xs H Q => ∃ P R σ s u ds v s', R.H = H ∧ Bnd H ∧ SR G P R σ s ∧ RepB G R σ u x ∧ Reps G R ds xs ∧ mtD m u ds s = .ok v s' ∧ Wm G P R σ s' v Q
theorem reps1 {d : D} {xs : List V} (h : Reps G R [d] xs) : ∃ x, xs = [x] ∧ Rep G R d x := by
  unfold Reps at h
  obtain ⟨y, ys, e, h1, h2⟩ := h
  unfold Reps at h2
  subst h2 e
  exact ⟨y, rfl, h1⟩
theorem seqIx {n : Nat} {i : Int} {k : Nat} (h : L2.ixN n i = some k) : seqIndex? i n = some k := (ixN_seq h).1
theorem find_ix {α : Type} {p : α → Bool} : ∀ {l : List α} {j : Nat}, l.findIdx? p = some j → (∃ z, l[j]? = some z ∧ p z = true) ∧ ∀ m z, m < j → l[m]? = some z → p z = false := fun {l j} h => by
  rw [List.findIdx?_eq_some_iff_getElem] at h
  obtain ⟨hlt, hp, hn⟩ := h
  refine ⟨⟨l[j], List.getElem?_eq_getElem hlt, hp⟩, fun m z hm e => ?_⟩
  obtain ⟨h1, h2⟩ := List.getElem?_eq_some_iff.mp e
  have := hn m hm
  rw [h2] at this
  simpa using this
theorem mt_D (m : Mt) (hK : X.K = G.K) : MtR X (mtId m) (rMt G m) := by
  intro pins s0 σ0 H x xs v us Q I rx rs h
  obtain ⟨P, R, σ, s, u, ds, d, s', rfl, bn, S, ru, rd, e, w⟩ := h
  unfold mtD at e
  split at e
  · -- append
    rename_i es z hv
    split at e
    · rename_i hlt
      simp only [seq] at e
      cases q : putList u (es ++ [z]) s with
      | ok _ s2 =>
        rw [q] at e
        cases e
        obtain ⟨l, ys, rfl, h1, h2, h3⟩ := put_ok S q ru hv
        obtain ⟨y, rfl, h4⟩ := reps1 rd
        obtain ⟨st, S'⟩ := h3 _ (h2.append (Reps.cons h4 Reps.nil))
        refine MtR.bnd (id := "list.append") mt_append pins s0 σ0 _ _ _ v us Q I rx rs ⟨l, ys, y, rfl, rfl, h1, by rw [h2.length, ← lim_line]; exact hlt, fun b => ?_⟩
        exact w _ _ st b S' Rep.non
      | exc c a s2 => rw [q] at e; cases e
      | bad => rw [q] at e; cases e
    · cases e
  · -- pop()
    rename_i es hv
    split at e
    · rename_i z hz
      simp only [seq] at e
      cases q : putList u es.dropLast s with
      | ok _ s2 =>
        rw [q] at e
        cases e
        obtain ⟨l, ys, rfl, h1, h2, h3⟩ := put_ok S q ru hv
        obtain ⟨y, h4, h5⟩ := h2.get hz
        have e0 : xs = [] := by unfold Reps at rd; exact rd
        subst e0
        obtain ⟨st, S'⟩ := h3 _ h2.dropLast
        refine MtR.bnd (id := "list.pop") mt_pop pins s0 σ0 _ _ _ v us Q I rx rs ⟨l, ys, y, rfl, rfl, h1, by rw [h2.length]; exact h4, fun b => ?_⟩
        exact w _ _ st b S' (h5.mono st)
      | exc c a s2 => rw [q] at e; cases e
      | bad => rw [q] at e; cases e
    · cases e
  · -- pop(i)
    rename_i es i hv
    split at e
    · rename_i hb
      split at e
      · rename_i z hz
        simp only [seq] at e
        cases q : putList u (es.eraseIdx (if 0 ≤ i then i.toNat else (i + es.length).toNat)) s with
        | ok _ s2 =>
          rw [q] at e
          cases e
          obtain ⟨l, ys, rfl, h1, h2, h3⟩ := put_ok S q ru hv
          obtain ⟨y, rfl, h4⟩ := reps1 rd
          have ey : y = .int i := h4.w.int_inv
          subst ey
          obtain ⟨st, S'⟩ := h3 _ (h2.eraseIdx _)
          obtain ⟨y, h5, h6⟩ := h2.at hz
          obtain ⟨k, hk, hy⟩ : ∃ k, L2.ixN ys.length i = some k ∧ ys[k]? = some y := by
            unfold L2.atI at h5
            exact Option.bind_eq_some_iff.mp h5
          have ek : k = (if 0 ≤ i then i.toNat else (i + es.length).toNat) := by
            unfold L2.ixN at hk
            rw [h2.length] at hk
            split at hk
            · split at hk
              · rename_i h0 _; rw [if_pos h0]; exact (Option.some.inj hk).symm
              · cases hk
            · split at hk
              · rename_i h0 _; rw [if_neg h0]; exact (Option.some.inj hk).symm
              · cases hk
          subst ek
          simp only [big, Bool.and_eq_true, decide_eq_true_eq] at hb
          refine MtR.bnd (id := "list.pop") mt_popAt pins s0 σ0 _ _ _ v us Q I rx rs ⟨l, ys, i, _, y, rfl, rfl, h1, by omega, by omega, seqIx hk, hy, fun b => ?_⟩
          exact w _ _ st b S' (h6.mono st)
        | exc c a s2 => rw [q] at e; cases e
        | bad => rw [q] at e; cases e
      · cases e
    · cases e
  · -- index
    rename_i es z hv
    split at e
    · rename_i hf
      split at e
      · rename_i j hj
        cases e
        obtain ⟨f1, f2⟩ := Bool.and_eq_true_iff.mp hf
        have rv := S.view ru
        rw [hv] at rv
        obtain ⟨a, ys, rfl, h1, h2⟩ := rv.lst_inv
        obtain ⟨y, rfl, h4⟩ := reps1 rd
        obtain ⟨⟨z1, g1, g2⟩, g3⟩ := find_ix hj
        obtain ⟨y1, g4, g5⟩ := h2.get g1
        have flz : ∀ {i : Nat} {t}, es[i]? = some t → t.flat = true := fun {i t} q => List.all_eq_true.mp f2 t (List.mem_of_getElem? q)
        refine MtR.bnd mt_index pins s0 σ0 _ _ _ v us Q I rx rs ⟨a, ys, y, j, y1, rfl, rfl, .inl h1, (flat_rep f1 h4.w).1, all_flat f2 h2, g4, by rw [eqV_flat (flz g1) f1 g5.w h4.w]; exact g2, fun m t hm ht => ?_, fun b => ?_⟩
        · obtain ⟨d', q1, q2⟩ := h2.get' ht
          rw [eqV_flat (flz q1) f1 q2.w h4.w]
          exact g3 m d' hm q1
        · exact w _ _ S.refl b S Rep.int
      · cases e
    · cases e
  · cases e
/-! ### x[i] = v -/
def rSet (G : Gm) : TSet := fun o i v H Q => ∃ P R σ s u k d s', R.H = H ∧ Bnd H ∧ SR G P R σ s ∧ RepB G R σ u o ∧ RepB G R σ k i ∧ Rep G R d v ∧ setSub u k d s = .ok () s' ∧ ∀ R', Stp P R R' → Bnd R'.H → SR G P R' σ s' → Q R'.H
theorem PSet.bnd {t : TSet} (h : PSet X t) : PSet X (fun o i v H Q => t o i v H fun H' => Bnd H' → Q H') := by
  intro pins s σ H o i v ov iv u Q I ro ri rv q
  exact thn (h pins s σ H o i v ov iv u _ I ro ri rv q) fun _ _ ⟨H', I', q'⟩ => ⟨H', I', q' (Bnd.of I')⟩
theorem set_D : PSet X (rSet G) := by
  intro pins s0 σ0 H o i v ov iv w Q I ro ri rv h
  obtain ⟨P, R, σ, s, u, k, d, s', rfl, bn, S, ru, rk, rd, e, hw⟩ := h
  unfold setSub at e
  split at e
  · rename_i ds n hv
    split at e
    · rename_i z hz
      obtain ⟨l, xs, rfl, h1, h2, h3⟩ := put_ok S e ru hv
      have ei : i = .int n := by have h : Rep G R (.int n) i := rk; unfold Rep at h; exact h
      subst ei
      obtain ⟨y, h5, h6⟩ := h2.at hz
      obtain ⟨j, hj, hy⟩ : ∃ k, L2.ixN xs.length n = some k ∧ xs[k]? = some y := by
        unfold L2.atI at h5
        exact Option.bind_eq_some_iff.mp h5
      have ek : j = (if 0 ≤ n then n.toNat else (n + ds.length).toNat) := by
        have hk := hj
        unfold L2.ixN at hk
        rw [h2.length] at hk
        split at hk
        · split at hk
          · rename_i h0 _; rw [if_pos h0]; exact (Option.some.inj hk).symm
          · cases hk
        · split at hk
          · rename_i h0 _; rw [if_neg h0]; exact (Option.some.inj hk).symm
          · cases hk
      subst ek
      obtain ⟨st, S'⟩ := h3 _ (h2.set _ rd)
      exact PSet.bnd set_list pins s0 σ0 _ _ _ _ ov iv w Q I ro ri rv ⟨l, xs, n, _, rfl, rfl, h1, hj, fun b => hw _ st b S'⟩
    · cases e
  · cases e
end
end Dn

/-! PyFld: fields, isinstance. -/
namespace Dn
open PySem L2

def tyVal (G : Gm) : D → Value
  | .non => .type "NoneType"
  | .bl _ => .type "bool"
  | .int _ => .type "int"
  | .str _ => .type "str"
  | .tup _ => .type "tuple"
  | .lst _ => .type "list"
  | .ins c _ => .ref (G.C c)
  | _ => .none
def clsVal (G : Gm) : Ty → Value
  | .int => .type "int" | .bool => .type "bool" | .str => .type "str" | .tuple => .type "tuple" | .list => .type "list"
  | .own c => .ref (G.C c)
def clsV (G : Gm) : Ty → V
  | .int => .ty "int" | .bool => .ty "bool" | .str => .ty "str" | .tuple => .ty "tuple" | .list => .ty "list"
  | .own c => .ref (G.C c)
/-- what the written part says of the program's classes -/
structure GOk (G : Gm) : Prop where
  cls : ∀ c, c < G.n → Cls G.K (G.C c)
  noat : ∀ c f, c < G.n → f ∈ G.N c → NoAttr G.K (G.C c) f
  nd : ∀ c, (G.N c).Nodup
  few : ∀ c, (G.N c).length < 1000
  ty : ∀ c H a dx fs, c < G.n → H a = some (.ins (G.C c) dx fs) → TyX G.K H (.ref a) (.ref (G.C c))
  kit : ∀ d t b, (∀ c fs, d = .ins c fs → c < G.n) → (∀ c, t = .own c → c < G.n) → isTy d t = some b → PySem.W.kitOne G.K (tyVal G d) (clsVal G t) = some b
def Ty.okN (n : Nat) : Ty → Bool
  | .own c => decide (c < n)
  | _ => true
section
variable {X : Cx} {G : Gm} {R : Rl}
theorem isTy_ty (O : GOk G) {d : D} {x : V} {t : Ty} {b : Bool} (e : isTy d t = some b) (r : RepW G R d x) : TyX G.K R.H x (tyVal G d) ∧ ∀ c fs, d = .ins c fs → c < G.n := by
  cases d with
  | non => have q := r.non_inv; subst q; exact ⟨.base .non, fun _ _ h => nomatch h⟩
  | bl b => have q := r.bl_inv; subst q; exact ⟨.base (.bl _), fun _ _ h => nomatch h⟩
  | int b => have q := r.int_inv; subst q; exact ⟨.base (.int _), fun _ _ h => nomatch h⟩
  | str b => have q := r.str_inv; subst q; exact ⟨.base (.str _), fun _ _ h => nomatch h⟩
  | tup ds =>
    obtain ⟨a, xs, rfl, h1, h2⟩ := r.tup_inv
    refine ⟨?_, fun _ _ h => nomatch h⟩
    rcases h1 with (h1 | ⟨o, h1⟩) | ⟨o, its, n, h1, h2, _⟩
    · exact .base (.tup h1)
    · exact .fTuple h1
    · exact .kTuple h1 h2
  | lst ds =>
    obtain ⟨a, xs, rfl, h1, h2⟩ := r.lst_inv
    refine ⟨?_, fun _ _ h => nomatch h⟩
    rcases h1 with h1 | ⟨o, h1⟩
    · exact .base (.lst h1)
    · exact .base (.frz h1)
  | ins c fs =>
    obtain ⟨a, dx, xs, rfl, h1, h2, h3⟩ : ∃ a dx xs, x = .ref a ∧ R.H a = some (.ins (G.C c) dx ((G.N c).zip xs)) ∧ InsOk G c xs ∧ Reps G R fs xs := r
    exact ⟨O.ty c R.H a dx _ h2.2 h1, fun c' fs' h => by cases h; exact h2.2⟩
  | _ => simp [isTy] at e
theorem kits_of (O : GOk G) {d : D} (hd : ∀ c fs, d = .ins c fs → c < G.n) : ∀ {ts : List Ty} {b : Bool}, ts.all (Ty.okN G.n) = true → isTys d ts = some b → PySem.W.kitAny G.K (tyVal G d) (ts.map (clsVal G)) = some b
  | [], b, _, e => by
    simp only [isTys, Option.some.injEq] at e
    subst e
    exact kitAny_nil
  | t :: r, b, ht, e => by
    simp only [List.all_cons, Bool.and_eq_true] at ht
    simp only [isTys, Option.bind_eq_some_iff] at e
    obtain ⟨k, e1, e2⟩ := e
    have h1 := O.kit d t k hd (fun c q => by subst q; simpa [Ty.okN] using ht.1) e1
    cases k with
    | true =>
      simp only [if_true, Option.some.injEq] at e2
      subst e2
      exact kitAny_cons h1 (fun z => nomatch z) fun _ => rfl
    | false => exact kitAny_cons h1 (fun _ => kits_of O hd ht.2 (by simpa using e2)) fun z => nomatch z
theorem isTys_ty {d : D} {t : Ty} {r : List Ty} {b : Bool} (e : isTys d (t :: r) = some b) : ∃ k, isTy d t = some k := by
  simp only [isTys, Option.bind_eq_some_iff] at e
  obtain ⟨k, e1, _⟩ := e
  exact ⟨k, e1⟩
def rIsi1 (G : Gm) (t : Ty) : List V → Hp → VK → Prop := fun xs H Q => ∃ P R σ s d x b, R.H = H ∧ Bnd H ∧ SR G P R σ s ∧ xs = [x, clsV G t] ∧ RepW G R d x ∧ isTys d [t] = some b ∧ Wn G P R σ s (.bl b) Q
theorem clsV_ok (t : Ty) : ClsV (clsV G t) (clsVal G t) := by cases t <;> first | exact .ty _ | exact .own _
theorem cr_isi1 (O : GOk G) (hK : X.K = G.K) {t : Ty} (ht : t.okN G.n = true) : CallR X (.builtin "isinstance") (rIsi1 G t) := by
  intro pins s0 σ0 H xs us Q I rs h
  obtain ⟨P, R, σ, s, d, x, b, rfl, bn, S, rfl, rd, e, w⟩ := h
  obtain ⟨k, ek⟩ := isTys_ty e
  obtain ⟨h1, h2⟩ := isTy_ty O ek rd
  have ebk : k = b := by
    simp only [isTys, ek, Option.bind_some] at e
    cases k <;> simpa using e
  subst ebk
  refine call_isi pins s0 σ0 _ _ us Q I rs ⟨x, clsV G t, _, _, k, rfl, clsV_ok t, by rw [hK]; exact h1, ?_, w.here S bn Rep.bl⟩
  rw [hK]
  exact O.kit d t k h2 (fun c q => by subst q; simpa [Ty.okN] using ht) ek
def rIsiN (G : Gm) (ts : List Ty) : List V → Hp → VK → Prop := fun xs H Q => ∃ P R σ s d x tp b, R.H = H ∧ SR G P R σ s ∧ xs = [x, .ref tp] ∧ H tp = some (.tup (ts.map (clsV G))) ∧ RepW G R d x ∧ isTys d ts = some b ∧ Wn G P R σ s (.bl b) Q
theorem cr_isiN (O : GOk G) (hK : X.K = G.K) {t : Ty} {ts : List Ty} (ht : (t :: ts).all (Ty.okN G.n) = true) : CallR X (.builtin "isinstance") (rIsiN G (t :: ts)) := by
  intro pins s0 σ0 H xs us Q I rs h
  obtain ⟨P, R, σ, s, d, x, tp, b, rfl, S, rfl, hT, rd, e, w⟩ := h
  obtain ⟨k, ek⟩ := isTys_ty e
  obtain ⟨h1, h2⟩ := isTy_ty O ek rd
  refine CallR.bnd call_isiT pins s0 σ0 _ _ us Q I rs ⟨x, tp, _, _, (t :: ts).map (clsVal G), b, rfl, hT, ?_, by rw [hK]; exact h1, ?_, fun bb => w.here S bb Rep.bl⟩
  · generalize t :: ts = l
    induction l with
    | nil => exact .nil
    | cons a r ih => exact .cons (clsV_ok a) ih
  · rw [hK]
    exact kits_of O h2 ht e

/-! ### fields -/
structure FNm (T : Tab) (G : Gm) (nm : Nat → Str) : Prop where
  names : ∀ (c : Nat) fs, T.flds[c]? = some fs → G.N c = fs.map nm
theorem lookup_zip {f : Str} {v : V} : ∀ {N : List Str} {xs : List V} {j : Nat}, N.Nodup → N[j]? = some f → xs[j]? = some v → (N.zip xs).lookup f = some v
  | [], _, _, _, h, _ => by simp at h
  | n :: N, [], _, _, _, h => by simp at h
  | n :: N, x :: xs, 0, _, h1, h2 => by
    simp at h1 h2; subst h1 h2
    simp [List.lookup]
  | n :: N, x :: xs, j + 1, hn, h1, h2 => by
    have hn' := List.nodup_cons.mp hn
    have h1' : N[j]? = some f := by simpa using h1
    have hne : ¬ f = n := fun e => hn'.1 (e ▸ List.mem_of_getElem? h1')
    have hb : (f == n) = false := beq_eq_false_iff_ne.mpr hne
    simp only [List.zip_cons_cons, List.lookup, hb]
    exact lookup_zip hn'.2 h1' (by simpa using h2)
theorem putF_set {f : Str} {v : V} : ∀ {N : List Str} {xs : List V} {j : Nat}, N.Nodup → N[j]? = some f → j < xs.length → putF f v (N.zip xs) = N.zip (xs.set j v)
  | [], _, _, _, h, _ => by simp at h
  | n :: N, [], _, _, _, h => by simp at h
  | n :: N, x :: xs, 0, _, h1, h2 => by
    simp at h1; subst h1
    simp [putF]
  | n :: N, x :: xs, j + 1, hn, h1, h2 => by
    have hn' := List.nodup_cons.mp hn
    have h1' : N[j]? = some f := by simpa using h1
    have hne : ¬ n = f := fun e => hn'.1 (e ▸ List.mem_of_getElem? h1')
    simp only [List.zip_cons_cons, putF, if_neg hne, List.set_cons_succ]
    rw [putF_set hn'.2 h1' (by simpa using h2)]
theorem putF_new {f : Str} {v : V} : ∀ {N : List Str} {xs : List V}, N.Nodup → N[xs.length]? = some f → putF f v (N.zip xs) = N.zip (xs ++ [v])
  | [], _, _, h => by simp at h
  | n :: N, [], _, h1 => by
    simp at h1; subst h1
    simp [putF]
  | n :: N, x :: xs, hn, h1 => by
    have hn' := List.nodup_cons.mp hn
    have h1' : N[xs.length]? = some f := by simpa using h1
    have hne : ¬ n = f := fun e => hn'.1 (e ▸ List.mem_of_getElem? h1')
    simp only [List.zip_cons_cons, putF, if_neg hne, List.cons_append]
    rw [putF_new hn'.2 h1']
theorem fldIx_ok {T : Tab} {nm : Nat → Str} (tg : FNm T G nm) {c f j : Nat} (h : fldIx T c f = some j) : (G.N c)[j]? = some (nm f) := by
  unfold fldIx at h
  split at h
  · rename_i fs e
    split at h
    · rename_i hm
      cases h
      rw [tg.names c fs e, List.getElem?_map, List.getElem?_eq_getElem (List.idxOf_lt_length_of_mem hm)]
      simp
    · cases h
  · cases h
/-- a field is read -/
theorem fld_ok {T : Tab} {nm : Nat → Str} (tg : FNm T G nm) (O : GOk G) {f : Nat} {d v : D} {x : V} (h : fldD T f d = some v) (r : RepW G R d x) :
    ∃ a C dx fs y, x = .ref a ∧ R.H a = some (.ins C dx fs) ∧ Cls G.K C ∧ NoAttr G.K C (nm f) ∧ fs.lookup (nm f) = some y ∧ Rep G R v y := by
  unfold fldD at h
  split at h
  · rename_i c fs
    obtain ⟨j, e1, e2⟩ := Option.bind_eq_some_iff.mp h
    obtain ⟨a, dx, xs, rfl, h1, h2, h3⟩ : ∃ a dx xs, x = .ref a ∧ R.H a = some (.ins (G.C c) dx ((G.N c).zip xs)) ∧ InsOk G c xs ∧ Reps G R fs xs := r
    obtain ⟨y, h4, h5⟩ := h3.get e2
    have h6 := fldIx_ok tg e1
    exact ⟨a, _, dx, _, y, rfl, h1, O.cls c h2.2, O.noat c _ h2.2 (List.mem_of_getElem? h6), lookup_zip (O.nd c) h6 h4, h5⟩
  · cases h
/-- a field is stored -/
theorem setFld_ok {T : Tab} {nm : Nat → Str} (tg : FNm T G nm) (O : GOk G) {P : Addr → Prop} {σ : L2.St} {s s' : St} (S : SR G P R σ s) {u : D} {f : Nat} {v : D} {x y : V} (h : setFld T u f v s = .ok () s') (ru : RepB G R σ u x) (rv : Rep G R v y) :
    ∃ a C dx fs, x = .ref a ∧ R.H a = some (.ins C dx fs) ∧ Cls G.K C ∧ NoAttr G.K C (nm f) ∧ fs.length < 1000 ∧ ∃ R', R'.H = upd R.H a (.ins C dx (putF (nm f) y fs)) ∧ Stp P R R' ∧ SR G P R' σ s' := by
  have zl : ∀ (c : Nat) (xs : List V), InsOk G c xs → ((G.N c).zip xs).length < 1000 := fun c xs _ => by
    have := O.few c
    rw [List.length_zip]; omega
  unfold setFld at h
  cases u with
  | slt i =>
    simp only at h
    split at h
    · rename_i c fs e
      have ru' : σ[i]? = some (some x) := ru
      obtain ⟨a, dx, xs, e1, h1, h2, h3, h4, h5, h6⟩ := S.slot i _ e
      rw [e1] at ru'; cases ru'
      split at h
      · rename_i j hj
        have hn := fldIx_ok tg hj
        have hjN : j < (G.N c).length := (List.getElem?_eq_some_iff.mp hn).1
        have hl := h3.length
        split at h
        · rename_i hlt
          cases h
          refine ⟨a, _, dx, _, rfl, h1, O.cls c h2.1.2, O.noat c _ h2.1.2 (List.mem_of_getElem? hn), zl c xs h2.1, { R with H := upd R.H a _ }, rfl, ?_⟩
          rw [putF_set (O.nd c) hn (by omega)]
          refine S.chgOwn (sl := .owni c fs) (sl' := .owni c (fs.set j v)) e rfl e1 h4 h5 h6 rfl ?_
          exact ⟨a, dx, xs.set j y, rfl, upd_same, ⟨⟨by rw [List.length_set]; exact h2.1.1, h2.1.2⟩, h2.2⟩, (h3.set j rv).mono (Stp.chg h4 h5 S.st.pr), h4, h5, h6⟩
        · split at h
          · rename_i _ heq
            cases h
            refine ⟨a, _, dx, _, rfl, h1, O.cls c h2.1.2, O.noat c _ h2.1.2 (List.mem_of_getElem? hn), zl c xs h2.1, { R with H := upd R.H a _ }, rfl, ?_⟩
            rw [putF_new (O.nd c) (by rw [hl, ← heq]; exact hn)]
            refine S.chgOwn (sl := .owni c fs) (sl' := .owni c (fs ++ [v])) e rfl e1 h4 h5 h6 rfl ?_
            exact ⟨a, dx, xs ++ [y], rfl, upd_same, ⟨⟨by rw [List.length_append, List.length_singleton]; omega, h2.1.2⟩, h2.2⟩, (h3.append (Reps.cons rv Reps.nil)).mono (Stp.chg h4 h5 S.st.pr), h4, h5, h6⟩
          · cases h
      · cases h
    · cases h
  | ref r =>
    simp only at h
    split at h
    · rename_i c fs e
      have ru' : Rep G R (.ref r) x := ru
      unfold Rep at ru'
      obtain ⟨a, rfl, e1⟩ := ru'
      obtain ⟨b, e2, dx, xs, h1, h2, h3⟩ := S.st.sto r _ e
      rw [e1] at e2; cases e2
      obtain ⟨hrl, hav, hnp⟩ := S.st.dom r a e1
      split at h
      · rename_i j hj
        have hn := fldIx_ok tg hj
        have hjN : j < (G.N c).length := (List.getElem?_eq_some_iff.mp hn).1
        have hl := h3.length
        split at h
        · rename_i hlt
          cases h
          refine ⟨a, _, dx, _, rfl, h1, O.cls c h2.2, O.noat c _ h2.2 (List.mem_of_getElem? hn), zl c xs h2, { R with H := upd R.H a _ }, rfl, ?_⟩
          rw [putF_set (O.nd c) hn (by omega)]
          exact S.chgRef e1 ⟨dx, xs.set j y, upd_same, ⟨by rw [List.length_set]; exact h2.1, h2.2⟩, (h3.set j rv).mono (Stp.chg hav hnp S.st.pr)⟩
        · split at h
          · rename_i _ heq
            cases h
            refine ⟨a, _, dx, _, rfl, h1, O.cls c h2.2, O.noat c _ h2.2 (List.mem_of_getElem? hn), zl c xs h2, { R with H := upd R.H a _ }, rfl, ?_⟩
            rw [putF_new (O.nd c) (by rw [hl, ← heq]; exact hn)]
            exact S.chgRef e1 ⟨dx, xs ++ [y], upd_same, ⟨by rw [List.length_append, List.length_singleton]; omega, h2.2⟩, (h3.append (Reps.cons rv Reps.nil)).mono (Stp.chg hav hnp S.st.pr)⟩
          · cases h
      · cases h
    · cases h
  | _ => cases h
end
end Dn

/-! PyGo: readings of the small language's trees; expressions construct by construct. -/
namespace Dn
open PySem L2

def wpR {α : Type} (r : Rs α) (Q : α → St → Prop) (E : Nat → D → St → Prop) : Prop := match r with
  | .ok a s => Q a s
  | .exc c a s => E c a s
  | .bad => False
theorem wpR.imp {α : Type} {r : Rs α} {Q Q' : α → St → Prop} {E E' : Nat → D → St → Prop} (h : wpR r Q E) (hq : ∀ a s, Q a s → Q' a s) (he : ∀ c a s, E c a s → E' c a s) : wpR r Q' E' := by
  cases r with
  | ok a s => exact hq a s h
  | exc c a s => exact he c a s h
  | bad => exact h
theorem wpR.bind {α β : Type} {r : Rs α} {f : α → M β} {Q : β → St → Prop} {E : Nat → D → St → Prop} (h : wpR (r.bind f) Q E) : wpR r (fun a s => wpR (f a s) Q E) E := by
  cases r with
  | ok a s => exact h
  | exc c a s => exact h
  | bad => exact h
abbrev WXX := WX
/-- an error leaves: its class, what it was given -/
def exq (G : Gm) (W : WX) (P : Addr → Prop) (R : Rl) (c : Nat) (a : D) (s : St) : Prop :=
  ∀ R' σ' d x, Stp P R R' → SR G P R' σ' s → R'.H d = some (.xd [("at", x)]) → Rep G R' a x → W (.ref (G.X c)) (some d) σ' R'.H
theorem exq.step {G : Gm} {W : WX} {P : Addr → Prop} {R R' : Rl} {c : Nat} {a : D} {s : St} (h : exq G W P R c a s) (st : Stp P R R') : exq G W P R' c a s :=
  fun R2 σ' d x s2 => h R2 σ' d x (st.trans s2)
abbrev Zt (α β : Type) := Rl → L2.St → α → β → Prop
def Go {α β : Type} (G : Gm) (W : WX) (m : M α) (Z : Zt α β) (P : Addr → Prop) (R : Rl) (σ : L2.St) (s : St) (Q : β → Hp → Prop) : Prop :=
  wpR (m s) (fun a s' => ∀ x R', Stp P R R' → Bnd R'.H → SR G P R' σ s' → Z R' σ a x → Q x R'.H) (exq G W P R)
/-- the reading of a computation -/
def tM {α β : Type} (G : Gm) (W : WX) (m : M α) (Z : Zt α β) : L2.St → Hp → (β → Hp → Prop) → Prop := fun σ H Q =>
  ∃ P R s, R.H = H ∧ Bnd H ∧ SR G P R σ s ∧ Go G W m Z P R σ s Q
section
variable {G : Gm} {W : WX} {α β γ δ : Type} {P : Addr → Prop} {R R' : Rl} {σ : L2.St} {s : St}
theorem Go.imp {m : M α} {Z : Zt α β} {Q Q' : β → Hp → Prop} (g : Go G W m Z P R σ s Q) (h : ∀ x H, Q x H → Q' x H) : Go G W m Z P R σ s Q' :=
  wpR.imp g (fun _ _ k x R' a b c d => h _ _ (k x R' a b c d)) fun _ _ _ k => k
theorem Go.step {m : M α} {Z : Zt α β} {Q : β → Hp → Prop} (g : Go G W m Z P R σ s Q) (st : Stp P R R') : Go G W m Z P R' σ s Q :=
  wpR.imp g (fun _ _ k x R2 a b c d => k x R2 (st.trans a) b c d) fun _ _ _ k => k.step st
/-- behind the first part: its value, and the rest -/
theorem Go.bind {m : M α} {f : α → M γ} {Za : Zt α β} {Zc : Zt γ δ} {Q : δ → Hp → Prop} (g : Go G W (seq m f) Zc P R σ s Q) :
    Go G W m Za P R σ s (fun x H1 => ∃ a R' s', R'.H = H1 ∧ Stp P R R' ∧ Bnd R'.H ∧ SR G P R' σ s' ∧ Za R' σ a x ∧ Go G W (f a) Zc P R' σ s' Q) := by
  have g' := wpR.bind g
  refine wpR.imp g' (fun a s' k x R' h1 h2 h3 h4 => ⟨a, R', s', rfl, h1, h2, h3, h4, ?_⟩) fun _ _ _ k => k
  exact wpR.imp k (fun _ _ k y R2 a b c d => k y R2 (h1.trans a) b c d) fun _ _ _ k => k.step h1
theorem Go.retD {a : α} {Z : Zt α β} {Q : β → Hp → Prop} (g : Go G W (ret a) Z P R σ s Q) {x : β} (b : Bnd R.H) (S : SR G P R σ s) (z : Z R σ a x) : Q x R.H := g x R S.refl b S z
theorem Go.optD {f : St → Option α} {Z : Zt α β} {Q : β → Hp → Prop} (g : Go G W (opt f) Z P R σ s Q) : ∃ d, f s = some d ∧ ∀ x R', Stp P R R' → Bnd R'.H → SR G P R' σ s → Z R' σ d x → Q x R'.H := by
  unfold Go opt at g
  cases e : f s with
  | none => rw [e] at g; exact g.elim
  | some d => rw [e] at g; exact ⟨d, rfl, g⟩
/-- a value: looked at only, or kept -/
def Zb (G : Gm) (b : Bool) : Zt D V := fun R σ d x => match b with
  | true => RepB G R σ d x
  | false => Rep G R d x
theorem Rep.z {b : Bool} {d : D} {x : V} (h : Rep G R d x) : Zb G b R σ d x := by cases b; exact h; exact h.b
theorem Go.zimp {m : M α} {Z Z' : Zt α β} {Q : β → Hp → Prop} (g : Go G W m Z P R σ s Q) (h : ∀ R a x, Z' R σ a x → Z R σ a x) : Go G W m Z' P R σ s Q :=
  wpR.imp g (fun _ _ k x R' a b c d => k x R' a b c (h _ _ _ d)) fun _ _ _ k => k
theorem Go.z0 {m : M D} {b : Bool} {Q : VK} (g : Go G W m (Zb G b) P R σ s Q) : Go G W m (Zb G false) P R σ s Q := g.zimp fun _ _ _ h => Rep.z h
theorem Go.wn {b : Bool} {f : St → Option D} {Q : VK} (g : Go G W (opt f) (Zb G b) P R σ s Q) : ∃ d, f s = some d ∧ Wn G P R σ s d Q := by
  obtain ⟨d, e, k⟩ := g.optD
  exact ⟨d, e, fun x R' h1 h2 h3 h4 => k x R' h1 h2 h3 h4.z⟩
end
theorem RepB.mono {G : Gm} {P : Addr → Prop} {R R' : Rl} {σ : L2.St} (st : Stp P R R') : ∀ {d : D} {x : V}, RepB G R σ d x → RepB G R' σ d x
  | .non, _, h | .bl _, _, h | .int _, _, h | .str _, _, h | .ty _, _, h | .ref _, _, h | .cls _, _, h | .tup _, _, h | .lst _, _, h | .ins _ _, _, h => Rep.mono st h
  | .slt _, _, h => h
def RepBs (G : Gm) (R : Rl) (σ : L2.St) : List D → List V → Prop
  | [], xs => xs = []
  | d :: r, xs => ∃ y ys, xs = y :: ys ∧ RepB G R σ d y ∧ RepBs G R σ r ys
theorem RepBs.mono {G : Gm} {P : Addr → Prop} {R R' : Rl} {σ : L2.St} (st : Stp P R R') : ∀ {ds : List D} {xs : List V}, RepBs G R σ ds xs → RepBs G R' σ ds xs
  | [], _, h => h
  | _ :: _, _, ⟨y, ys, e, h1, h2⟩ => ⟨y, ys, e, h1.mono st, h2.mono st⟩
theorem RepBs.view {G : Gm} {P : Addr → Prop} {R : Rl} {σ : L2.St} {s : St} (S : SR G P R σ s) : ∀ {ds : List D} {xs : List V}, RepBs G R σ ds xs → RepWs G R (ds.map (view s)) xs
  | [], _, h => h
  | _ :: _, _, ⟨y, ys, e, h1, h2⟩ => ⟨y, ys, e, S.view h1, h2.view S⟩

/-! ### weakening -/
section
variable {X : Cx}
theorem PE.weak {e : Expr} {t t' : TE} (h : PE X e t) (hw : ∀ σ H Q, Bnd H → t' σ H Q → t σ H (fun v H' => Bnd H' → Q v H')) : PE X e t' :=
  ⟨fun pins s σ H Q I q => thn (h.run pins s σ H _ I (hw σ H Q (Bnd.of I) q)) fun _ _ ⟨z, H', I', r', q'⟩ => ⟨z, H', I', r', q' (Bnd.of I')⟩⟩
theorem PT.weak {e : Expr} {t t' : TT} (h : PT X e t) (hw : ∀ σ H Q, Bnd H → t' σ H Q → t σ H (fun v H' => Bnd H' → Q v H')) : PT X e t' :=
  ⟨fun pins s σ H Q I q => thn (h.run pins s σ H _ I (hw σ H Q (Bnd.of I) q)) fun _ _ ⟨H', I', q'⟩ => ⟨H', I', q' (Bnd.of I')⟩⟩
theorem PA.weak {es : List Expr} {t t' : TA} (h : PA X es t) (hw : ∀ σ H Q, Bnd H → t' σ H Q → t σ H (fun v H' => Bnd H' → Q v H')) : PA X es t' :=
  ⟨fun pos pins s σ H Q I q => thn (h.run pos pins s σ H _ I (hw σ H Q (Bnd.of I) q)) fun _ _ ⟨z, H', I', r', q'⟩ => ⟨z, H', I', r', q' (Bnd.of I')⟩⟩
end

section
variable {X : Cx} {T : Tab} {O : Orc} {G : Gm} {W : WX}
abbrev tE (T : Tab) (O : Orc) (G : Gm) (W : WX) (b : Bool) (x : E) : TE := tM G W (ev T O b x) (Zb G b)
/-- as a test: True or False -/
abbrev tT (T : Tab) (O : Orc) (G : Gm) (W : WX) (x : E) : TT := tB (tE T O G W true x)
/-- a new frozen value comes where nothing else changes -/
theorem freeze {P : Addr → Prop} {R : Rl} {σ : L2.St} {s : St} (S : SR G P R σ s) {i : Nat} {sl : Slot} (e : s.env[i]? = some sl) (ho : sl.isOwn = true) {d : D} (hd : (∃ ds, sl = .own ds ∧ d = .lst ds) ∨ ∃ c fs, sl = .owni c fs ∧ d = .ins c fs) :
    ∃ R' x, R'.H = R.H ∧ Stp P R R' ∧ SR G P R' σ (s.put i (.val d)) ∧ Rep G R' d x ∧ σ[i]? = some (some x) := by
  obtain ⟨a, hx, hav, hnp, hnr⟩ : ∃ a, σ[i]? = some (some (.ref a)) ∧ R.Av a ∧ ¬ P a ∧ ∀ r, R.ρ r ≠ some a := by
    have h := S.slot i sl e
    rcases hd with ⟨ds, rfl, _⟩ | ⟨c, fs, rfl, _⟩
    · obtain ⟨a, xs, h1, h2, h3, h4, h5, h6⟩ := h; exact ⟨a, h1, h4, h5, h6⟩
    · obtain ⟨a, dx, xs, h1, h2, h0, h3, h4, h5, h6⟩ := h; exact ⟨a, h1, h4, h5, h6⟩
  have st : Stp P R { R with Av := fun b => R.Av b ∧ b ≠ a } := ⟨fun _ _ h => h, fun b o h n => ⟨h, fun z => n z.1⟩, fun b o p h => ⟨h, S.st.pr b p, by rintro rfl; exact hnp p⟩⟩
  have rep : Rep G { R with Av := fun b => R.Av b ∧ b ≠ a } d (.ref a) := by
    have h := S.slot i sl e
    rcases hd with ⟨ds, rfl, rfl⟩ | ⟨c, fs, rfl, rfl⟩
    · obtain ⟨b, xs, h1, h2, h3, _⟩ := h
      rw [hx] at h1; cases h1
      unfold Rep
      exact ⟨a, xs, rfl, fun z => z.2 rfl, .inl h2, h3.mono st⟩
    · obtain ⟨b, dx, xs, h1, h2, h0, h3, _⟩ := h
      rw [hx] at h1; cases h1
      unfold Rep
      exact ⟨a, dx, xs, rfl, fun z => z.2 rfl, h2, h0.1, h3.mono st⟩
  have hlt : i < s.env.length := (List.getElem?_eq_some_iff.mp e).1
  have own_i : Owns s.env σ i a := ⟨⟨sl, e, ho⟩, hx⟩
  refine ⟨{ R with Av := fun b => R.Av b ∧ b ≠ a }, .ref a, rfl, st, ⟨⟨fun r o q => ?_, fun r b q => ?_, S.st.inj, fun b h => S.st.av b h.1, fun b p => ⟨S.st.pr b p, by rintro rfl; exact hnp p⟩⟩, ?_, fun j sj q => ?_, fun j k b h1 h2 => ?_⟩, rep, hx⟩
  · obtain ⟨b, e1, h⟩ := S.st.sto r o q
    exact ⟨b, e1, h.mono st rfl⟩
  · obtain ⟨h1, h2, h3⟩ := S.st.dom r b q
    exact ⟨h1, ⟨h2, by rintro rfl; exact hnr r q⟩, h3⟩
  · show (s.env.set i _).length = σ.length
    rw [List.length_set]; exact S.len
  · have q' : (s.env.set i (.val d))[j]? = some sj := q
    by_cases hj : i = j
    · subst hj
      rw [List.getElem?_set_self hlt] at q'
      cases q'
      exact ⟨.ref a, hx, rep⟩
    · rw [List.getElem?_set_ne hj] at q'
      have h := S.slot j sj q'
      cases sj with
      | emp => trivial
      | val d => obtain ⟨v, e1, r⟩ := h; exact ⟨v, e1, r.mono st⟩
      | own ds =>
        obtain ⟨b, xs, e1, h1, h2, h3, h4⟩ := h
        refine ⟨b, xs, e1, h1, h2.mono st, ⟨h3, ?_⟩, h4⟩
        rintro rfl
        exact hj (S.own i j _ own_i ⟨⟨_, q', rfl⟩, e1⟩)
      | owni c fs =>
        obtain ⟨b, dx, xs, e1, h1, h0, h2, h3, h4⟩ := h
        refine ⟨b, dx, xs, e1, h1, h0, h2.mono st, ⟨h3, ?_⟩, h4⟩
        rintro rfl
        exact hj (S.own i j _ own_i ⟨⟨_, q', rfl⟩, e1⟩)
  · have back : ∀ m, Owns (s.env.set i (.val d)) σ m b → Owns s.env σ m b := fun m ⟨⟨sm, q, hm⟩, z⟩ => by
      by_cases hmi : i = m
      · subst hmi
        rw [List.getElem?_set_self hlt] at q
        cases q; cases hm
      · rw [List.getElem?_set_ne hmi] at q; exact ⟨⟨sm, q, hm⟩, z⟩
    exact S.own j k b (back j h1) (back k h2)

/-! ### names, constants -/
theorem s_var {b : Bool} {i : Nat} {x : Str} {pos : Pos} (hN : X.N[i]? = some x) (hv : Vis X.env.scope x) (hd : (x == ("__debug__" : Str)) = false) (hcd : (x == ("__classdict__" : Str)) = false) : PE X (.Name x pos) (tE T O G W b (.var i)) := by
  refine PE.weak (pe_var hN hv hd hcd) fun σ H Q bn h => ?_
  obtain ⟨P, R, s, rfl, _, S, g⟩ := h
  have g' : wpR (getv b i s) (fun a s' => ∀ x R', Stp P R R' → Bnd R'.H → SR G P R' σ s' → Zb G b R' σ a x → Q x R'.H) (exq G W P R) := g
  unfold getv at g'
  cases e : s.env[i]? with
  | none => simp only [e] at g'; exact g'.elim
  | some sl =>
    have h := S.slot i sl e
    cases sl with
    | emp => simp only [e] at g'; exact g'.elim
    | val d =>
      simp only [e] at g'
      obtain ⟨v, e1, r⟩ := h
      exact ⟨v, e1, fun _ => g' v R S.refl bn S r.z⟩
    | own ds =>
      simp only [e] at g'
      cases b with
      | true =>
        obtain ⟨a, xs, e1, _⟩ := h
        exact ⟨_, e1, fun _ => g' _ R S.refl bn S e1⟩
      | false =>
        obtain ⟨R', v, hH, st, S', r, e1⟩ := freeze S e rfl (.inl ⟨ds, rfl, rfl⟩)
        refine ⟨v, e1, fun _ => ?_⟩
        rw [← hH]
        exact g' v R' st (by rw [hH]; exact bn) S' r
    | owni c fs =>
      simp only [e] at g'
      cases b with
      | true =>
        obtain ⟨a, dx, xs, e1, _⟩ := h
        exact ⟨_, e1, fun _ => g' _ R S.refl bn S e1⟩
      | false =>
        obtain ⟨R', v, hH, st, S', r, e1⟩ := freeze S e rfl (.inr ⟨c, fs, rfl, rfl⟩)
        refine ⟨v, e1, fun _ => ?_⟩
        rw [← hH]
        exact g' v R' st (by rw [hH]; exact bn) S' r
theorem s_const {b : Bool} {x : E} {d : D} {v : V} {e : Expr} (h : PE X e (tC v)) (hx : ev T O b x = ret d) (hr : ∀ R, Rep G R d v) : PE X e (tE T O G W b x) := by
  refine PE.weak h fun σ H Q bn q => ?_
  obtain ⟨P, R, s, rfl, _, S, g⟩ := q
  rw [hx] at g
  exact fun _ => g.retD bn S (hr R).z

/-! ### two operands -/
theorem s_two {b : Bool} {x y : E} {e1 e2 : Expr} {r : R2} {f : St → D → D → Option D} (h1 : PE X e1 (tE T O G W true x)) (h2 : PE X e2 (tE T O G W true y)) {e : Expr} (h : PE X e (tOp r (tE T O G W true x) (tE T O G W true y)))
    {m : E} (hm : ev T O b m = seq (ev T O true x) fun u => seq (ev T O true y) fun v => opt fun s => f s u v)
    (hr : ∀ P R σ s u v d a c Q, Bnd R.H → SR G P R σ s → RepB G R σ u a → RepB G R σ v c → f s u v = some d → Wn G P R σ s d Q → r a c R.H Q) : PE X e (tE T O G W b m) := by
  refine PE.weak h fun σ H Q bn q => ?_
  obtain ⟨P, R, s, rfl, _, S, g⟩ := q
  rw [hm] at g
  refine ⟨P, R, s, rfl, bn, S, (g.bind (Za := Zb G true)).imp fun a H1 q1 => ?_⟩
  obtain ⟨u, R1, s1, rfl, st1, b1, S1, z1, g1⟩ := q1
  refine ⟨P, R1, s1, rfl, b1, S1, (g1.bind (Za := Zb G true)).imp fun c H2 q2 => ?_⟩
  obtain ⟨v, R2, s2, rfl, st2, b2, S2, z2, g2⟩ := q2
  obtain ⟨d, ed, w⟩ := g2.wn
  exact hr P R2 σ s2 u v d a c _ b2 S2 (z1.mono st2) z2 ed fun x R' h1 h2 h3 h4 _ => w x R' h1 h2 h3 h4
theorem s_bin (hK : X.K = G.K) {b : Bool} {o : Op2} {x y : E} {e1 e2 : Expr} {pos : Pos} (h1 : PE X e1 (tE T O G W true x)) (h2 : PE X e2 (tE T O G W true y)) : PE X (.BinOp e1 (opOf o) e2 pos) (tE T O G W b (.bin o x y)) :=
  s_two (f := fun s u v => bin o (view s u) (view s v)) h1 h2 (pe_op (op_bin o hK) h1 h2) rfl fun P R σ s u v d a c Q bn S ra rc e w =>
    ⟨P, R, σ, s, _, _, d, rfl, bn, S, S.view ra, S.view rc, e, w⟩
theorem s_cmp (hK : X.K = G.K) (hu : X.A.units + 64 < cLine) {b : Bool} {o : COp} {x y : E} {e1 e2 : Expr} {pos : Pos} (hm : behindInMarks (copOf o) e2 = false) (h1 : PE X e1 (tE T O G W true x)) (h2 : PE X e2 (tE T O G W true y)) :
    PE X (.Compare e1 [copOf o] [e2] pos) (tE T O G W b (.cmp o x y)) :=
  s_two (f := fun s u v => (cmpD o (view s u) (view s v)).map .bl) h1 h2 (pe_cmpR (op_cmp (G := G) o hK hu) h1 h2 hm) rfl fun P R σ s u v d a c Q bn S ra rc e w =>
    ⟨P, R, σ, s, _, _, d, rfl, bn, S, S.view ra, S.view rc, e, w⟩
theorem s_isc {b ng : Bool} {x y : E} {e1 e2 : Expr} {pos : Pos} (hm : behindInMarks (if ng then .IsNot else .Is) e2 = false) (h1 : PE X e1 (tE T O G W true x)) (h2 : PE X e2 (tE T O G W true y)) :
    PE X (.Compare e1 [if ng then .IsNot else .Is] [e2] pos) (tE T O G W b (.isc ng x y)) :=
  s_two (f := fun _ u v => (isD u v).map fun c => .bl (if ng then !c else c)) h1 h2 (pe_cmpR (op_isc (G := G) ng) h1 h2 hm) rfl fun P R σ s u v d a c Q bn S ra rc e w => by
    obtain ⟨k, ek, rfl⟩ := Option.map_eq_some_iff.mp e
    exact ⟨P, R, σ, s, u, v, k, rfl, bn, S, ra, rc, ek, w⟩
theorem s_idx (hK : X.K = G.K) {b : Bool} {x y : E} {e1 e2 : Expr} {pos : Pos} (hp : PlainIx e2) (h1 : PE X e1 (tE T O G W true x)) (h2 : PE X e2 (tE T O G W true y)) : PE X (.Subscript e1 e2 pos) (tE T O G W b (.idx x y)) :=
  s_two (f := fun s u v => idxD (view s u) v) h1 h2 (pe_ix (ix_D hK) h1 h2 hp) rfl fun P R σ s u v d a c Q bn S ra rc e w => by
    obtain ⟨k, rfl⟩ : ∃ k, v = .int k := by
      cases v <;> first | exact ⟨_, rfl⟩ | (unfold idxD at e; split at e <;> simp_all)
    exact ⟨P, R, σ, s, _, .int k, d, rfl, bn, S, S.view ra, S.view rc, e, w⟩

/-! ### tests -/
/-- a comparison as a test -/
theorem s_cmpT {r : R2} {op : CmpOp} {x y m : E} {e1 e2 : Expr} {pos : Pos} {f : St → D → D → Option D} (ho : OpR X (compareOp op) r) (hm : behindInMarks op e2 = false) (h1 : PE X e1 (tE T O G W true x)) (h2 : PE X e2 (tE T O G W true y))
    (he : ev T O true m = seq (ev T O true x) fun u => seq (ev T O true y) fun v => opt fun s => f s u v)
    (hr : ∀ P R σ s u v d a c Q, Bnd R.H → SR G P R σ s → RepB G R σ u a → RepB G R σ v c → f s u v = some d → Wn G P R σ s d Q → r a c R.H Q) : PT X (.Compare e1 [op] [e2] pos) (tT T O G W m) := by
  refine PT.weak (pt_cmpR ho h1 h2 hm) fun σ H Q bn q => ?_
  obtain ⟨P, R, s, rfl, _, S, g⟩ := q
  rw [he] at g
  refine ⟨P, R, s, rfl, bn, S, (g.bind (Za := Zb G true)).imp fun a H1 q1 => ?_⟩
  obtain ⟨u, R1, s1, rfl, st1, b1, S1, z1, g1⟩ := q1
  refine ⟨P, R1, s1, rfl, b1, S1, (g1.bind (Za := Zb G true)).imp fun c H2 q2 => ?_⟩
  obtain ⟨v, R2, s2, rfl, st2, b2, S2, z2, g2⟩ := q2
  obtain ⟨d, ed, w⟩ := g2.wn
  refine hr P R2 σ s2 u v d a c _ b2 S2 (z1.mono st2) z2 ed fun x R' h1 h2 h3 h4 => ?_
  obtain ⟨k, e, q⟩ := w x R' h1 h2 h3 h4
  exact ⟨k, e, fun _ => q⟩
theorem Go.notBad {α β : Type} {m : M α} {Z : Zt α β} {P : Addr → Prop} {R : Rl} {σ : L2.St} {s : St} {Q : β → Hp → Prop} (g : Go G W m Z P R σ s Q) : m s ≠ .bad := fun e => by
  unfold Go at g; rw [e] at g; exact g
/-- a computation that asks a truth first -/
theorem tT_of {γ δ : Type} {x : E} {f : D → M γ} {Zc : Zt γ δ} {P : Addr → Prop} {R : Rl} {σ : L2.St} {s : St} {Q : δ → Hp → Prop} (bn : Bnd R.H) (S : SR G P R σ s) (g : Go G W (seq (ev T O true x) f) Zc P R σ s Q) (hf : ∀ u s, (∀ b, u ≠ .bl b) → f u s = .bad) :
    tT T O G W x σ R.H (fun c H1 => ∃ R' s', R'.H = H1 ∧ Stp P R R' ∧ Bnd R'.H ∧ SR G P R' σ s' ∧ Go G W (f (.bl c)) Zc P R' σ s' Q) := by
  refine ⟨P, R, s, rfl, bn, S, (g.bind (Za := Zb G true)).imp fun a H1 q1 => ?_⟩
  obtain ⟨u, R1, s1, rfl, st1, b1, S1, z1, g1⟩ := q1
  by_cases hb : ∃ b, u = .bl b
  · obtain ⟨b, rfl⟩ := hb
    have e : a = .bl b := by have h : Rep G R1 (.bl b) a := z1; unfold Rep at h; exact h
    exact ⟨b, e, R1, s1, rfl, st1, b1, S1, g1⟩
  · exact (g1.notBad (hf u s1 fun b e => hb ⟨b, e⟩)).elim
/-- from a value's rule to a test's, by truth -/
theorem s_test {x : E} {e : Expr} (h : PE X e (tE T O G W true x)) (he : ∀ whole, isTrue e X.env whole = (do let v ← whole; standAt e.pos; holding [v] (truthy v))) : PT X e (tT T O G W x) := pt_val h he
theorem s_not {b : Bool} {x : E} {e : Expr} {pos : Pos} (h : PE X e (tE T O G W true x)) : PE X (.UnaryOp .Not e pos) (tE T O G W b (.not x)) := by
  refine PE.weak (pe_not h) fun σ H Q bn q => ?_
  obtain ⟨P, R, s, rfl, _, S, g⟩ := q
  refine ⟨P, R, s, rfl, bn, S, (Go.bind (f := fun u => opt fun _ => u.bl?.map fun c => D.bl (!c)) (m := ev T O true x) (Za := Zb G true) g).imp fun a H1 q1 => ?_⟩
  obtain ⟨u, R1, s1, rfl, st1, b1, S1, z1, g1⟩ := q1
  obtain ⟨d, ed, w⟩ := g1.wn
  obtain ⟨k, ek, rfl⟩ := Option.map_eq_some_iff.mp ed
  cases u <;> simp only [D.bl?] at ek <;> try (cases ek; done)
  cases ek
  have e : a = .bl k := by have h : Rep G R1 (.bl k) a := z1; unfold Rep at h; exact h
  exact ⟨k, e, fun _ => w.here S1 b1 Rep.bl⟩
theorem s_notT {x : E} {e : Expr} {pos : Pos} (h : PT X e (tT T O G W x)) : PT X (.UnaryOp .Not e pos) (tT T O G W (.not x)) := by
  refine PT.weak (pt_not h) fun σ H Q bn q => ?_
  obtain ⟨P, R, s, rfl, _, S, g⟩ := q
  have q := tT_of (x := x) (f := fun u => opt fun _ => u.bl?.map fun c => D.bl (!c)) bn S g fun u s hu => by
    cases u <;> first | rfl | exact (hu _ rfl).elim
  refine Exists.imp (fun P => Exists.imp fun R => Exists.imp fun s => And.imp_right (And.imp_right (And.imp_right fun g => g.imp fun x H1 => ?_))) q
  rintro ⟨c, e, R', s', rfl, st, b1, S1, g1⟩
  obtain ⟨d, ed, w⟩ := g1.wn
  cases ed
  obtain ⟨k, ek, q'⟩ := w.here S1 b1 Rep.bl
  cases ek
  exact ⟨c, e, fun _ => q'⟩
theorem tM_imp {α β : Type} {m : M α} {Z : Zt α β} {σ : L2.St} {H : Hp} {Q Q' : β → Hp → Prop} (q : tM G W m Z σ H Q) (h : ∀ x H, Q x H → Q' x H) : tM G W m Z σ H Q' := by
  obtain ⟨P, R, s, e, bn, S, g⟩ := q
  exact ⟨P, R, s, e, bn, S, g.imp h⟩
theorem tT_imp {x : E} {σ : L2.St} {H : Hp} {Q Q' : Bool → Hp → Prop} (q : tT T O G W x σ H Q) (h : ∀ x H, Q x H → Q' x H) : tT T O G W x σ H Q' :=
  tM_imp q fun x H ⟨c, e, q⟩ => ⟨c, e, h c H q⟩
theorem s_ifx {b : Bool} {c x y : E} {e1 e2 e3 : Expr} {pos : Pos} (h1 : PT X e1 (tT T O G W c)) (h2 : PE X e2 (tE T O G W false x)) (h3 : PE X e3 (tE T O G W false y)) : PE X (.IfExp e1 e2 e3 pos) (tE T O G W b (.ifx c x y)) := by
  refine PE.weak (pe_ifExp h1 h2 h3) fun σ H Q bn q => ?_
  obtain ⟨P, R, s, rfl, _, S, g⟩ := q
  refine tT_imp (tT_of (f := fun u => match u with | .bl true => ev T O false x | .bl false => ev T O false y | _ => bad) bn S g fun u s hu => ?_) fun k H1 q => ?_
  · cases u <;> first | rfl | exact (hu _ rfl).elim
  · obtain ⟨R', s', rfl, st, b1, S1, g1⟩ := q
    cases k with
    | true => exact ⟨P, R', s', rfl, b1, S1, g1.z0.imp fun _ _ z _ => z⟩
    | false => exact ⟨P, R', s', rfl, b1, S1, g1.z0.imp fun _ _ z _ => z⟩

/-! ### and, or -/
abbrev tAn (T : Tab) (O : Orc) (G : Gm) (W : WX) (es : Es) : TE := tM G W (evAnd T O es) (Zb G false)
abbrev tOr' (T : Tab) (O : Orc) (G : Gm) (W : WX) (es : Es) : TE := tM G W (evOr T O es) (Zb G false)
theorem s_and1 {x : E} {e : Expr} {pos : Pos} (h : PE X e (tE T O G W true x)) : PE X (.BoolOp .And [e] pos) (tAn T O G W (.cons x .nil)) := by
  refine PE.weak (pe_one h) fun σ H Q bn q => ?_
  obtain ⟨P, R, s, rfl, _, S, g⟩ := q
  refine tM_imp (tT_of (x := x) (f := fun u => match u with | .bl c => ret (D.bl c) | _ => bad) bn S g fun u s hu => ?_) fun k H1 q => ?_
  · cases u <;> first | rfl | exact (hu _ rfl).elim
  · obtain ⟨c, rfl, R', s', rfl, st, b1, S1, g1⟩ := q
    exact fun _ => g1.retD b1 S1 Rep.bl.z
theorem s_and {x : E} {y : E} {r : Es} {e e' : Expr} {es : List Expr} {pos : Pos} (h : PE X e (tE T O G W true x)) (h2 : PE X (.BoolOp .And (e' :: es) pos) (tAn T O G W (.cons y r))) : PE X (.BoolOp .And (e :: e' :: es) pos) (tAn T O G W (.cons x (.cons y r))) := by
  refine PE.weak (pe_and h h2) fun σ H Q bn q => ?_
  obtain ⟨P, R, s, rfl, _, S, g⟩ := q
  refine tT_imp (tT_of (f := fun u => match u with | .bl true => evAnd T O (.cons y r) | .bl false => ret (D.bl false) | _ => bad) bn S g fun u s hu => ?_) fun k H1 q => ?_
  · cases u <;> first | rfl | exact (hu _ rfl).elim
  · obtain ⟨R', s', rfl, st, b1, S1, g1⟩ := q
    cases k with
    | true => exact ⟨P, R', s', rfl, b1, S1, g1.imp fun _ _ z _ => z⟩
    | false => exact fun _ => g1.retD b1 S1 Rep.bl.z
theorem s_or1 {x : E} {e : Expr} {pos : Pos} (h : PE X e (tE T O G W true x)) : PE X (.BoolOp .Or [e] pos) (tOr' T O G W (.cons x .nil)) := by
  refine PE.weak (pe_one h) fun σ H Q bn q => ?_
  obtain ⟨P, R, s, rfl, _, S, g⟩ := q
  refine tM_imp (tT_of (x := x) (f := fun u => match u with | .bl c => ret (D.bl c) | _ => bad) bn S g fun u s hu => ?_) fun k H1 q => ?_
  · cases u <;> first | rfl | exact (hu _ rfl).elim
  · obtain ⟨c, rfl, R', s', rfl, st, b1, S1, g1⟩ := q
    exact fun _ => g1.retD b1 S1 Rep.bl.z
theorem s_or {x : E} {y : E} {r : Es} {e e' : Expr} {es : List Expr} {pos : Pos} (h : PE X e (tE T O G W true x)) (h2 : PE X (.BoolOp .Or (e' :: es) pos) (tOr' T O G W (.cons y r))) : PE X (.BoolOp .Or (e :: e' :: es) pos) (tOr' T O G W (.cons x (.cons y r))) := by
  refine PE.weak (pe_or h h2) fun σ H Q bn q => ?_
  obtain ⟨P, R, s, rfl, _, S, g⟩ := q
  refine tT_imp (tT_of (f := fun u => match u with | .bl false => evOr T O (.cons y r) | .bl true => ret (D.bl true) | _ => bad) bn S g fun u s hu => ?_) fun k H1 q => ?_
  · cases u <;> first | rfl | exact (hu _ rfl).elim
  · obtain ⟨R', s', rfl, st, b1, S1, g1⟩ := q
    cases k with
    | false => exact ⟨P, R', s', rfl, b1, S1, g1.imp fun _ _ z _ => z⟩
    | true => exact fun _ => g1.retD b1 S1 Rep.bl.z
/-- .. as tests -/
abbrev tAnT (T : Tab) (O : Orc) (G : Gm) (W : WX) (es : Es) : TT := tB (tAn T O G W es)
abbrev tOrT (T : Tab) (O : Orc) (G : Gm) (W : WX) (es : Es) : TT := tB (tOr' T O G W es)
theorem PW.weak {e : Expr} {t t' : TT} (h : PW X e t) (hw : ∀ σ H Q, Bnd H → t' σ H Q → t σ H (fun v H' => Bnd H' → Q v H')) : PW X e t' :=
  ⟨fun wh pins s σ H Q I q => thn (h.run wh pins s σ H _ I (hw σ H Q (Bnd.of I) q)) fun _ _ ⟨H', I', q'⟩ => ⟨H', I', q' (Bnd.of I')⟩⟩
theorem s_and1T {x : E} {e : Expr} {pos : Pos} (h : PT X e (tT T O G W x)) : PW X (.BoolOp .And [e] pos) (tAnT T O G W (.cons x .nil)) := by
  refine PW.weak (pw_and1 h) fun σ H Q bn q => ?_
  obtain ⟨P, R, s, rfl, _, S, g⟩ := q
  refine tT_imp (tT_of (x := x) (f := fun u => match u with | .bl c => ret (D.bl c) | _ => bad) bn S g fun u s hu => ?_) fun k H1 q => ?_
  · cases u <;> first | rfl | exact (hu _ rfl).elim
  · obtain ⟨R', s', rfl, st, b1, S1, g1⟩ := q
    obtain ⟨c, e, q'⟩ := g1.retD b1 S1 (Rep.bl (i := k)).z
    cases e
    exact fun _ => q'
theorem s_andT {x y : E} {r : Es} {e e' : Expr} {es : List Expr} {pos : Pos} (h : PT X e (tT T O G W x)) (h2 : PW X (.BoolOp .And (e' :: es) pos) (tAnT T O G W (.cons y r))) : PW X (.BoolOp .And (e :: e' :: es) pos) (tAnT T O G W (.cons x (.cons y r))) := by
  refine PW.weak (pw_and h h2) fun σ H Q bn q => ?_
  obtain ⟨P, R, s, rfl, _, S, g⟩ := q
  refine tT_imp (tT_of (x := x) (f := fun u => match u with | .bl true => evAnd T O (.cons y r) | .bl false => ret (D.bl false) | _ => bad) bn S g fun u s hu => ?_) fun k H1 q => ?_
  · cases u <;> first | rfl | exact (hu _ rfl).elim
  · obtain ⟨R', s', rfl, st, b1, S1, g1⟩ := q
    cases k with
    | true => exact ⟨P, R', s', rfl, b1, S1, g1.imp fun _ _ ⟨c, e, z⟩ => ⟨c, e, fun _ => z⟩⟩
    | false =>
      obtain ⟨c, e, q'⟩ := g1.retD b1 S1 (Rep.bl (i := false)).z
      cases e
      exact fun _ => q'
theorem s_or1T {x : E} {e : Expr} {pos : Pos} (h : PT X e (tT T O G W x)) : PW X (.BoolOp .Or [e] pos) (tOrT T O G W (.cons x .nil)) := by
  refine PW.weak (pw_or1 h) fun σ H Q bn q => ?_
  obtain ⟨P, R, s, rfl, _, S, g⟩ := q
  refine tT_imp (tT_of (x := x) (f := fun u => match u with | .bl c => ret (D.bl c) | _ => bad) bn S g fun u s hu => ?_) fun k H1 q => ?_
  · cases u <;> first | rfl | exact (hu _ rfl).elim
  · obtain ⟨R', s', rfl, st, b1, S1, g1⟩ := q
    obtain ⟨c, e, q'⟩ := g1.retD b1 S1 (Rep.bl (i := k)).z
    cases e
    exact fun _ => q'
theorem s_orT {x y : E} {r : Es} {e e' : Expr} {es : List Expr} {pos : Pos} (h : PT X e (tT T O G W x)) (h2 : PW X (.BoolOp .Or (e' :: es) pos) (tOrT T O G W (.cons y r))) : PW X (.BoolOp .Or (e :: e' :: es) pos) (tOrT T O G W (.cons x (.cons y r))) := by
  refine PW.weak (pw_or h h2) fun σ H Q bn q => ?_
  obtain ⟨P, R, s, rfl, _, S, g⟩ := q
  refine tT_imp (tT_of (x := x) (f := fun u => match u with | .bl false => evOr T O (.cons y r) | .bl true => ret (D.bl true) | _ => bad) bn S g fun u s hu => ?_) fun k H1 q => ?_
  · cases u <;> first | rfl | exact (hu _ rfl).elim
  · obtain ⟨R', s', rfl, st, b1, S1, g1⟩ := q
    cases k with
    | false => exact ⟨P, R', s', rfl, b1, S1, g1.imp fun _ _ ⟨c, e, z⟩ => ⟨c, e, fun _ => z⟩⟩
    | true =>
      obtain ⟨c, e, q'⟩ := g1.retD b1 S1 (Rep.bl (i := true)).z
      cases e
      exact fun _ => q'
end
end Dn

/-! PyGo2: arguments, displays, fields, slices, built-in calls. -/
namespace Dn
open PySem L2
section
variable {X : Cx} {T : Tab} {O : Orc} {G : Gm} {W : WX}
/-- so many values that are kept | looked at -/
def Zs (G : Gm) (n : Nat) : Zt (List D) (List V) := fun R _ ds xs => Reps G R ds xs ∧ ds.length = n
def Zw (G : Gm) (n : Nat) : Zt (List D) (List V) := fun R σ ds xs => RepBs G R σ ds xs ∧ ds.length = n
abbrev tA (T : Tab) (O : Orc) (G : Gm) (W : WX) (n : Nat) (es : Es) : TA := tM G W (evs T O es) (Zs G n)
abbrev tAB (T : Tab) (O : Orc) (G : Gm) (W : WX) (n : Nat) (es : Es) : TA := tM G W (evBs T O es) (Zw G n)
theorem s_nil : PA X [] (tA T O G W 0 .nil) := PA.weak pa_nil fun σ H Q bn q => by
  obtain ⟨P, R, s, rfl, _, S, g⟩ := q
  exact fun _ => Go.retD (a := []) g bn S ⟨Reps.nil, rfl⟩
theorem s_cons {x : E} {r : Es} {e : Expr} {es : List Expr} {n : Nat} (h : PE X e (tE T O G W false x)) (hr : PA X es (tA T O G W n r)) (hs : starEach (e :: es) X.env = (false, eval e X.env) :: starEach es X.env) : PA X (e :: es) (tA T O G W (n + 1) (.cons x r)) := PA.weak (pa_cons h hr hs) fun σ H Q bn q => by
  obtain ⟨P, R, s, rfl, _, S, g⟩ := q
  refine ⟨P, R, s, rfl, bn, S, (Go.bind (m := ev T O false x) (f := fun d => seq (evs T O r) fun ds => ret (d :: ds)) (Za := Zb G false) g).imp fun a H1 q1 => ?_⟩
  obtain ⟨u, R1, s1, rfl, st1, b1, S1, z1, g1⟩ := q1
  refine ⟨P, R1, s1, rfl, b1, S1, (g1.bind (Za := Zs G n)).imp fun xs H2 q2 => ?_⟩
  obtain ⟨v, R2, s2, rfl, st2, b2, S2, z2, g2⟩ := q2
  exact fun _ => Go.retD (a := u :: v) g2 b2 S2 ⟨Reps.cons (Rep.mono st2 z1) z2.1, by rw [List.length_cons, z2.2]⟩
theorem s_nilB : PA X [] (tAB T O G W 0 .nil) := PA.weak pa_nil fun σ H Q bn q => by
  obtain ⟨P, R, s, rfl, _, S, g⟩ := q
  exact fun _ => Go.retD (a := []) g bn S ⟨rfl, rfl⟩
theorem s_consB {x : E} {r : Es} {e : Expr} {es : List Expr} {n : Nat} (h : PE X e (tE T O G W true x)) (hr : PA X es (tAB T O G W n r)) (hs : starEach (e :: es) X.env = (false, eval e X.env) :: starEach es X.env) : PA X (e :: es) (tAB T O G W (n + 1) (.cons x r)) := PA.weak (pa_cons h hr hs) fun σ H Q bn q => by
  obtain ⟨P, R, s, rfl, _, S, g⟩ := q
  refine ⟨P, R, s, rfl, bn, S, (Go.bind (m := ev T O true x) (f := fun d => seq (evBs T O r) fun ds => ret (d :: ds)) (Za := Zb G true) g).imp fun a H1 q1 => ?_⟩
  obtain ⟨u, R1, s1, rfl, st1, b1, S1, z1, g1⟩ := q1
  refine ⟨P, R1, s1, rfl, b1, S1, (g1.bind (Za := Zw G n)).imp fun xs H2 q2 => ?_⟩
  obtain ⟨v, R2, s2, rfl, st2, b2, S2, z2, g2⟩ := q2
  exact fun _ => Go.retD (a := u :: v) g2 b2 S2 ⟨⟨_, _, rfl, RepB.mono st2 z1, z2.1⟩, by rw [List.length_cons, z2.2]⟩

/-! ### displays -/
theorem Go.retNew {b : Bool} {d : D} {P : Addr → Prop} {R : Rl} {σ : L2.St} {s : St} {Q : VK} (g : Go G W (ret d) (Zb G b) P R σ s Q) (S : SR G P R σ s) {p : Addr} {o : HO} (np : R.H p = none) (bn : Bnd (upd R.H p o)) {x : V} (r : Rep G { R with H := upd R.H p o } d x) : Q x (upd R.H p o) :=
  g x { R with H := upd R.H p o } (S.st.stepLaid np) bn (S.laid np) r.z
theorem s_tup {b : Bool} {r : Es} {es : List Expr} {x1 : Nat} {pos : Pos} {n : Nat} (h : PA X es (tA T O G W n r)) (hn : n ≤ 1000) : PE X (.Tuple es x1 pos) (tE T O G W b (.tup r)) := by
  refine PE.weak (pe_tup h) fun σ H Q bn q => ?_
  obtain ⟨P, R, s, rfl, _, S, g⟩ := q
  refine ⟨P, R, s, rfl, bn, S, (Go.bind (m := evs T O r) (f := fun ds => ret (D.tup ds)) (Za := Zs G n) g).imp fun xs H1 q1 => ?_⟩
  obtain ⟨u, R1, s1, rfl, st1, b1, S1, z1, g1⟩ := q1
  refine ⟨?_, fun p hp bb => g1.retNew S1 hp bb (Rep.new_tup S1 hp z1.1)⟩
  have e1 := z1.1.length
  have e2 := z1.2
  have : (1000 : Nat) ≤ sizeLine := by decide
  omega
theorem s_lst {b : Bool} {r : Es} {es : List Expr} {pos : Pos} {n : Nat} (h : PA X es (tA T O G W n r)) (hn : n ≤ 1000) : PE X (.List es pos) (tE T O G W b (.lst r)) := by
  refine PE.weak (pe_lst h) fun σ H Q bn q => ?_
  obtain ⟨P, R, s, rfl, _, S, g⟩ := q
  refine ⟨P, R, s, rfl, bn, S, (Go.bind (m := evs T O r) (f := fun ds => ret (D.lst ds)) (Za := Zs G n) g).imp fun xs H1 q1 => ?_⟩
  obtain ⟨u, R1, s1, rfl, st1, b1, S1, z1, g1⟩ := q1
  refine ⟨?_, fun p hp bb => g1.retNew S1 hp bb (Rep.new_lst S1 hp z1.1)⟩
  have e1 := z1.1.length
  have e2 := z1.2
  have : (1000 : Nat) ≤ sizeLine := by decide
  omega

/-! ### one operand -/
theorem s_neg {b : Bool} {x : E} {e : Expr} {pos : Pos} (h : PE X e (tE T O G W true x)) : PE X (.UnaryOp .USub e pos) (tE T O G W b (.neg x)) := by
  refine PE.weak (pe_un un_neg h) fun σ H Q bn q => ?_
  obtain ⟨P, R, s, rfl, _, S, g⟩ := q
  refine ⟨P, R, s, rfl, bn, S, (Go.bind (m := ev T O true x) (f := fun u => opt fun _ => u.int?.map fun i => D.int (-i)) (Za := Zb G true) g).imp fun a H1 q1 => ?_⟩
  obtain ⟨u, R1, s1, rfl, st1, b1, S1, z1, g1⟩ := q1
  obtain ⟨d, ed, w⟩ := g1.wn
  obtain ⟨k, ek, rfl⟩ := Option.map_eq_some_iff.mp ed
  cases u <;> simp only [D.int?] at ek <;> try (cases ek; done)
  cases ek
  have e : a = .int k := by have h : Rep G R1 (.int k) a := z1; unfold Rep at h; exact h
  exact ⟨k, e, fun _ => w.here S1 b1 Rep.int⟩
theorem s_fld {nm : Nat → Str} (tg : FNm T G nm) (OK : GOk G) (hK : X.K = G.K) {b : Bool} {x : E} {f : Nat} {e : Expr} {pos : Pos} (hb : attributeBase e (nm f) X.env (eval e X.env) = eval e X.env) (h : PE X e (tE T O G W true x)) : PE X (.Attribute e (nm f) pos) (tE T O G W b (.fld x f)) := by
  refine PE.weak (pe_fld h hb) fun σ H Q bn q => ?_
  obtain ⟨P, R, s, rfl, _, S, g⟩ := q
  refine ⟨P, R, s, rfl, bn, S, (Go.bind (m := ev T O true x) (f := fun u => opt fun s => fldD T f (view s u)) (Za := Zb G true) g).imp fun a H1 q1 => ?_⟩
  obtain ⟨u, R1, s1, rfl, st1, b1, S1, z1, g1⟩ := q1
  obtain ⟨d, ed, w⟩ := g1.wn
  obtain ⟨a', C, dx, fs, y, e1, h1, h2, h3, h4, h5⟩ := fld_ok tg OK ed (S1.view z1)
  exact ⟨a', C, dx, fs, y, e1, h1, by rw [hK]; exact h2, by rw [hK]; exact h3, h4, fun _ => w.here S1 b1 h5⟩

/-! ### slices -/
abbrev tP (T : Tab) (O : Orc) (G : Gm) (W : WX) (p : Es) : TO := tM G W (evP T O p) (fun _ _ (a b : Option Int) => a = b)
theorem PO.weak {e : Option Expr} {t t' : TO} (h : PO X e t) (hw : ∀ σ H Q, Bnd H → t' σ H Q → t σ H (fun v H' => Bnd H' → Q v H')) : PO X e t' :=
  ⟨fun pins s σ H Q I q => thn (h.run pins s σ H _ I (hw σ H Q (Bnd.of I) q)) fun _ _ ⟨z, H', I', r', q'⟩ => ⟨z, H', I', r', q' (Bnd.of I')⟩⟩
theorem s_pnone : PO X none (tP T O G W .nil) := PO.weak po_none fun σ H Q bn q => by
  obtain ⟨P, R, s, rfl, _, S, g⟩ := q
  exact fun _ => Go.retD (a := none) g bn S rfl
theorem s_psome {x : E} {e : Expr} (h : PE X e (tE T O G W true x)) : PO X (some e) (tP T O G W (.cons x .nil)) := PO.weak (po_some h) fun σ H Q bn q => by
  obtain ⟨P, R, s, rfl, _, S, g⟩ := q
  refine ⟨P, R, s, rfl, bn, S, (Go.bind (m := ev T O true x) (f := fun u => match u with | .int i => ret (some i) | _ => bad) (Za := Zb G true) g).imp fun a H1 q1 => ?_⟩
  obtain ⟨u, R1, s1, rfl, st1, b1, S1, z1, g1⟩ := q1
  cases u with
  | int i =>
    have e : a = .int i := by have h : Rep G R1 (.int i) a := z1; unfold Rep at h; exact h
    exact ⟨i, e, fun _ => Go.retD (a := some i) g1 b1 S1 rfl⟩
  | _ => exact (g1.notBad rfl).elim
theorem s_slc (hK : X.K = G.K) {b : Bool} {x : E} {lo hi : Es} {e : Expr} {l u : Option Expr} {p2 pos : Pos} (h : PE X e (tE T O G W true x)) (hl : PO X l (tP T O G W lo)) (hu : PO X u (tP T O G W hi)) : PE X (.Subscript e (.Slice l u none p2) pos) (tE T O G W b (.slc x lo hi)) := by
  refine PE.weak (pe_slice (sl_D hK) h hl hu) fun σ H Q bn q => ?_
  obtain ⟨P, R, s, rfl, _, S, g⟩ := q
  refine ⟨P, R, s, rfl, bn, S, (Go.bind (m := ev T O true x) (f := fun u => seq (evP T O lo) fun v => seq (evP T O hi) fun w => opt fun s => slcD (view s u) v w) (Za := Zb G true) g).imp fun a H1 q1 => ?_⟩
  obtain ⟨u, R1, s1, rfl, st1, b1, S1, z1, g1⟩ := q1
  refine ⟨P, R1, s1, rfl, b1, S1, (g1.bind (Za := fun _ _ (a b : Option Int) => a = b)).imp fun v H2 q2 => ?_⟩
  obtain ⟨_, R2, s2, rfl, st2, b2, S2, rfl, g2⟩ := q2
  refine ⟨P, R2, s2, rfl, b2, S2, (g2.bind (Za := fun _ _ (a b : Option Int) => a = b)).imp fun w H3 q3 => ?_⟩
  obtain ⟨_, R3, s3, rfl, st3, b3, S3, rfl, g3⟩ := q3
  obtain ⟨d, ed, w'⟩ := g3.wn
  exact ⟨P, R3, σ, s3, _, d, rfl, b3, S3, S3.view (RepB.mono (st2.trans st3) z1), ed, fun x R' h1 h2 h3 h4 _ => w' x R' h1 h2 h3 h4⟩
theorem s_rev {b : Bool} {x : E} {e : Expr} {k : Nat} {p1 p2 p3 pos : Pos} (h : PE X e (tE T O G W true x)) : PE X (.Subscript e (.Slice none none (some (.UnaryOp .USub (.Constant (.int 1) k p1) p2)) p3) pos) (tE T O G W b (.rev x)) := by
  refine PE.weak (pe_revL h) fun σ H Q bn q => ?_
  obtain ⟨P, R, s, rfl, _, S, g⟩ := q
  refine ⟨P, R, s, rfl, bn, S, (Go.bind (m := ev T O true x) (f := fun u => opt fun s => (view s u).lst?.map fun ds => D.lst ds.reverse) (Za := Zb G true) g).imp fun a H1 q1 => ?_⟩
  obtain ⟨u, R1, s1, rfl, st1, b1, S1, z1, g1⟩ := q1
  obtain ⟨d, ed, w⟩ := g1.wn
  obtain ⟨ds, e1, rfl⟩ := Option.map_eq_some_iff.mp ed
  have rv := S1.view z1
  cases hv : view s1 u <;> rw [hv] at e1 <;> simp only [D.lst?] at e1 <;> try (cases e1; done)
  cases e1
  rw [hv] at rv
  obtain ⟨a', xs, rfl, h1, h2⟩ := rv.lst_inv
  exact ⟨a', xs, rfl, .inl h1, fun p hp bb => w.fresh S1 hp bb (Rep.new_lst S1 hp h2.reverse)⟩

/-! ### built-in calls -/
def biName : Bi → Str
  | .len => "len" | .all => "all" | .any => "any" | .sum => "sum" | .min => "min" | .max => "max" | .sorted => "sorted" | .abs => "abs" | .int => "int" | .tuple => "tuple" | .list => "list"
theorem boot_bi (f : Bi) : bootBuiltins (biName f) = some (biVal f) := by cases f <;> decide +kernel
theorem bi_name (f : Bi) : biName f ≠ "__name__" ∧ (biName f == ("__debug__" : Str)) = false := by cases f <;> decide +kernel
theorem s_bi (hK : X.K = G.K) (hc : X.calm = true) {b : Bool} {f : Bi} {r : Es} {e : Expr} {es : List Expr} {p pos : Pos} {n : Nat} (hg : Gl X (biName f)) (hm : X.mg (biName f) = none) (h : PA X (e :: es) (tAB T O G W n r))
    (he : starEach (e :: es) X.env = (false, eval e X.env) :: starEach es X.env) (hpl : (backTo pos (starEach es X.env)).any (·.1) = false) : PE X (.Call (.Name (biName f) p) (e :: es) [] pos) (tE T O G W b (.bi f r)) := by
  have key : PE X (.Call (.Name (biName f) p) (e :: es) [] pos) (tCB (rDN G (biD f)) (tAB T O G W n r)) := by
    have c := cr_bi (X := X) (G := G) f hK hc
    have v := boot_bi f
    have nm := bi_name f
    cases f <;> first | exact pe_callB c hg hm v h nm.1 nm.2 he hpl | exact pe_callTy c hg hm v h nm.1 nm.2 he hpl
  refine PE.weak key fun σ H Q bn q => ?_
  obtain ⟨P, R, s, rfl, _, S, g⟩ := q
  refine ⟨P, R, s, rfl, bn, S, (Go.bind (m := evBs T O r) (f := fun xs => opt fun s => biD f (xs.map (view s))) (Za := Zw G n) g).imp fun xs H1 q1 => ?_⟩
  obtain ⟨u, R1, s1, rfl, st1, b1, S1, z1, g1⟩ := q1
  obtain ⟨d, ed, w⟩ := g1.wn
  exact ⟨P, R1, σ, s1, _, d, rfl, b1, S1, z1.1.view S1, ed, fun x R' h1 h2 h3 h4 _ => w x R' h1 h2 h3 h4⟩
def tyName : Ty → Str
  | .int => "int" | .bool => "bool" | .str => "str" | .tuple => "tuple" | .list => "list" | .own _ => "object"
theorem boot_ty (t : Ty) (h : ∀ c, t ≠ .own c) : bootBuiltins (tyName t) = some (clsVal G t) ∧ RelV (clsV G t) (clsVal G t) ∧ tyName t ≠ "__name__" ∧ (tyName t == ("__debug__" : Str)) = false := by
  cases t with
  | own c => exact (h c rfl).elim
  | int => exact ⟨show bootBuiltins "int" = some (.type "int") by decide +kernel, rfl, by decide +kernel, by decide +kernel⟩
  | bool => exact ⟨show bootBuiltins "bool" = some (.type "bool") by decide +kernel, rfl, by decide +kernel, by decide +kernel⟩
  | str => exact ⟨show bootBuiltins "str" = some (.type "str") by decide +kernel, rfl, by decide +kernel, by decide +kernel⟩
  | tuple => exact ⟨show bootBuiltins "tuple" = some (.type "tuple") by decide +kernel, rfl, by decide +kernel, by decide +kernel⟩
  | list => exact ⟨show bootBuiltins "list" = some (.type "list") by decide +kernel, rfl, by decide +kernel, by decide +kernel⟩
/-- isinstance(x, T) -/
theorem s_isi1 (OK : GOk G) (hK : X.K = G.K) {b : Bool} {x : E} {t : Ty} {e c : Expr} {p pos : Pos} (ht : t.okN G.n = true) (hg : Gl X "isinstance") (hm : X.mg "isinstance" = none) (h : PE X e (tE T O G W true x)) (hc : PE X c (tC (clsV G t)))
    (h1 : starEach (e :: [c]) X.env = (false, eval e X.env) :: starEach [c] X.env) (h2 : starEach (c :: []) X.env = (false, eval c X.env) :: starEach [] X.env) : PE X (.Call (.Name "isinstance" p) [e, c] [] pos) (tE T O G W b (.isi x [t])) := by
  refine PE.weak (pe_callB (cr_isi1 OK hK ht) hg hm (by decide +kernel) (pa_cons h (pa_cons hc pa_nil h2) h1) (by decide +kernel) (by decide +kernel) h1 (by rw [h2]; rfl)) fun σ H Q bn q => ?_
  obtain ⟨P, R, s, rfl, _, S, g⟩ := q
  refine ⟨P, R, s, rfl, bn, S, (Go.bind (m := ev T O true x) (f := fun u => opt fun s => (isTys (view s u) [t]).map D.bl) (Za := Zb G true) g).imp fun a H1 q1 => ?_⟩
  obtain ⟨u, R1, s1, rfl, st1, b1, S1, z1, g1⟩ := q1
  obtain ⟨d, ed, w⟩ := g1.wn
  obtain ⟨k, ek, rfl⟩ := Option.map_eq_some_iff.mp ed
  exact ⟨P, R1, σ, s1, _, a, k, rfl, b1, S1, rfl, S1.view z1, ek, fun x R' h1 h2 h3 h4 _ => w x R' h1 h2 h3 h4⟩
/-- a tuple of classes -/
def tCs (vs : List V) : TA := fun _ H Q => Q vs H
theorem cs_nil : PA X [] (tCs []) := pa_nil
theorem cs_cons {v : V} {vs : List V} {e : Expr} {es : List Expr} (h : PE X e (tC v)) (hr : PA X es (tCs vs)) (hs : starEach (e :: es) X.env = (false, eval e X.env) :: starEach es X.env) : PA X (e :: es) (tCs (v :: vs)) := pa_cons h hr hs
theorem s_isiN (OK : GOk G) (hK : X.K = G.K) {b : Bool} {x : E} {t : Ty} {ts : List Ty} {e : Expr} {cs : List Expr} {x1 : Nat} {p tp pos : Pos} (ht : (t :: ts).all (Ty.okN G.n) = true) (hl : (t :: ts).length ≤ 1000) (hg : Gl X "isinstance") (hm : X.mg "isinstance" = none) (h : PE X e (tE T O G W true x)) (hc : PA X cs (tCs ((t :: ts).map (clsV G))))
    (h1 : starEach (e :: [.Tuple cs x1 tp]) X.env = (false, eval e X.env) :: starEach [.Tuple cs x1 tp] X.env) : PE X (.Call (.Name "isinstance" p) [e, .Tuple cs x1 tp] [] pos) (tE T O G W b (.isi x (t :: ts))) := by
  refine PE.weak (pe_callB (cr_isiN OK hK ht) hg hm (by decide +kernel) (pa_cons h (pa_cons (pe_tup hc) pa_nil rfl) h1) (by decide +kernel) (by decide +kernel) h1 rfl) fun σ H Q bn q => ?_
  obtain ⟨P, R, s, rfl, _, S, g⟩ := q
  refine ⟨P, R, s, rfl, bn, S, (Go.bind (m := ev T O true x) (f := fun u => opt fun s => (isTys (view s u) (t :: ts)).map D.bl) (Za := Zb G true) g).imp fun a H1 q1 => ?_⟩
  obtain ⟨u, R1, s1, rfl, st1, b1, S1, z1, g1⟩ := q1
  refine ⟨by rw [List.length_map]; exact Nat.le_trans hl (by decide), fun q hq => ?_⟩
  obtain ⟨d, ed, w⟩ := g1.wn
  obtain ⟨k, ek, rfl⟩ := Option.map_eq_some_iff.mp ed
  have z2 := S1.view z1
  have st := S1.st.stepLaid (o := .tup ((t :: ts).map (clsV G))) hq
  have S2 := S1.laid (o := .tup ((t :: ts).map (clsV G))) hq
  have z3 : RepW G { R1 with H := upd R1.H q (.tup ((t :: ts).map (clsV G))) } (view s1 u) a := S2.view (RepB.mono st z1)
  exact ⟨P, { R1 with H := upd R1.H q (.tup ((t :: ts).map (clsV G))) }, σ, s1, _, a, q, k, rfl, S2, rfl, upd_same, z3, ek, fun x R' h1 h2 h3 h4 _ => w x R' (st.trans h1) h2 h3 h4⟩
end
end Dn

/-! PyGo3: new lists of one's own, methods, calls of the program's defs. -/
namespace Dn
open PySem L2
section
variable {X : Cx} {T : Tab} {O : Orc} {G : Gm} {W : WX}
/-- a new list: the moment ahead of its laying is told -/
def tO (G : Gm) (W : WX) (m : M (List D)) : TE := fun σ H Q => ∃ P R s, R.H = H ∧ Bnd H ∧ SR G P R σ s ∧
  wpR (m s) (fun ds s' => ∀ a xs R1, Stp P R R1 → SR G P R1 σ s' → R1.H a = none → Reps G R1 ds xs → Bnd (upd R1.H a (.lst xs)) → Q (.ref a) (upd R1.H a (.lst xs))) (exq G W P R)
/-- .. as a value that nobody changes -/
theorem s_frozen {b : Bool} {x : E} {m : M (List D)} {e : Expr} (h : PE X e (tO G W m)) (hx : ev T O b x = seq m fun ds => ret (.lst ds)) : PE X e (tE T O G W b x) := by
  refine PE.weak h fun σ H Q bn q => ?_
  obtain ⟨P, R, s, rfl, _, S, g⟩ := q
  rw [hx] at g
  refine ⟨P, R, s, rfl, bn, S, wpR.imp (wpR.bind g) (fun ds s' k a xs R1 st S1 hn hr bb _ => ?_) fun _ _ _ k => k⟩
  exact k (.ref a) { R1 with H := upd R1.H a (.lst xs) } (st.trans (S1.st.stepLaid hn)) bb (S1.laid hn) (Rep.new_lst S1 hn hr).z
/-- the store's new object -/
theorem SR.publish {P : Addr → Prop} {R : Rl} {σ : L2.St} {s : St} (S : SR G P R σ s) {a : Addr} {xs : List V} {ds : List D} (hn : R.H a = none) (hr : Reps G R ds xs) :
    ∃ R', R'.H = upd R.H a (.lst xs) ∧ Stp P R R' ∧ SR G P R' σ { s with sto := s.sto ++ [.lst ds] } ∧ R'.ρ s.sto.length = some a := by
  have rn : ∀ r b, R.ρ r = some b → b ≠ a := fun r b h => by
    rintro rfl; exact S.st.av _ (S.st.dom r _ h).2.1 hn
  have pn : ¬ P a := fun p => S.st.av a (S.st.pr a p) hn
  have st : Stp P R ⟨fun r => if r = s.sto.length then some a else R.ρ r, fun b => R.Av b ∨ b = a, upd R.H a (.lst xs)⟩ := by
    refine ⟨fun r b h => ?_, fun b o h n => ⟨?_, ?_⟩, fun b o p h => ⟨?_, .inl (S.st.pr b p)⟩⟩
    · show (if r = s.sto.length then some a else R.ρ r) = some b
      rw [if_neg (Nat.ne_of_lt (S.st.dom r b h).1)]; exact h
    · show upd R.H a (.lst xs) b = some o
      rw [upd_ne (ne_of_none h hn)]; exact h
    · rintro (z | z)
      · exact n z
      · exact ne_of_none h hn z
    · show upd R.H a (.lst xs) b = some o
      rw [upd_ne (ne_of_none h hn)]; exact h
  refine ⟨_, rfl, st, ⟨⟨fun r o e => ?_, fun r b h => ?_, fun r r' b h1 h2 => ?_, fun b h => ?_, fun b p => .inl (S.st.pr b p)⟩, S.len, fun i sl e => ?_, S.own⟩, if_pos rfl⟩
  · have e' : (s.sto ++ [Ob.lst ds])[r]? = some o := e
    by_cases hr' : r < s.sto.length
    · rw [List.getElem?_append_left hr'] at e'
      obtain ⟨b, e1, h⟩ := S.st.sto r o e'
      refine ⟨b, st.rho _ _ e1, h.mono st ?_⟩
      show upd R.H a (.lst xs) b = R.H b
      rw [upd_ne (rn r b e1)]
    · rw [List.getElem?_append_right (by omega)] at e'
      obtain ⟨h1, h2⟩ := List.getElem?_eq_some_iff.mp e'
      have er : r = s.sto.length := by simp at h1; omega
      subst er
      simp at h2
      subst h2
      exact ⟨a, if_pos rfl, xs, upd_same, hr.mono st⟩
  · have h' : (if r = s.sto.length then some a else R.ρ r) = some b := h
    by_cases hr' : r = s.sto.length
    · rw [if_pos hr'] at h'
      cases h'
      exact ⟨by rw [hr']; simp, .inr rfl, pn⟩
    · rw [if_neg hr'] at h'
      obtain ⟨h1, h2, h3⟩ := S.st.dom r b h'
      exact ⟨by simp; omega, .inl h2, h3⟩
  · have h1' : (if r = s.sto.length then some a else R.ρ r) = some b := h1
    have h2' : (if r' = s.sto.length then some a else R.ρ r') = some b := h2
    by_cases q1 : r = s.sto.length
    · by_cases q2 : r' = s.sto.length
      · rw [q1, q2]
      · rw [if_pos q1] at h1'
        rw [if_neg q2] at h2'
        cases h1'
        exact (rn _ _ h2' rfl).elim
    · by_cases q2 : r' = s.sto.length
      · rw [if_neg q1] at h1'
        rw [if_pos q2] at h2'
        cases h2'
        exact (rn _ _ h1' rfl).elim
      · rw [if_neg q1] at h1'
        rw [if_neg q2] at h2'
        exact S.st.inj r r' b h1' h2'
  · rcases h with h | h
    · show upd R.H a (.lst xs) b ≠ none
      by_cases q : b = a
      · rw [q, upd_same]; exact fun z => nomatch z
      · rw [upd_ne q]; exact S.st.av b h
    · show upd R.H a (.lst xs) b ≠ none
      rw [h, upd_same]; exact fun z => nomatch z
  · have h := S.slot i sl e
    cases sl with
    | emp => trivial
    | val d => obtain ⟨v, e1, r⟩ := h; exact ⟨v, e1, r.mono st⟩
    | own es =>
      obtain ⟨b, ys, e1, h1, h2, h3, h4, h5⟩ := h
      have nb : b ≠ a := ne_of_none h1 hn
      refine ⟨b, ys, e1, (by show upd R.H a _ b = _; rw [upd_ne nb]; exact h1), h2.mono st, .inl h3, h4, fun r z => ?_⟩
      have z' : (if r = s.sto.length then some a else R.ρ r) = some b := z
      split at z'
      · cases z'; exact nb rfl
      · exact h5 r z'
    | owni c fs =>
      obtain ⟨b, dx, ys, e1, h1, h0, h2, h3, h4, h5⟩ := h
      have nb : b ≠ a := ne_of_none h1 hn
      refine ⟨b, dx, ys, e1, (by show upd R.H a _ b = _; rw [upd_ne nb]; exact h1), h0, h2.mono st, .inl h3, h4, fun r z => ?_⟩
      have z' : (if r = s.sto.length then some a else R.ρ r) = some b := z
      split at z'
      · cases z'; exact nb rfl
      · exact h5 r z'
theorem s_gal {b : Bool} {x : E} {e : Expr} (h : PE X e (tO G W (evOwn T O x))) : PE X e (tE T O G W b (.gal x)) := by
  refine PE.weak h fun σ H Q bn q => ?_
  obtain ⟨P, R, s, rfl, _, S, g⟩ := q
  have g' : Go G W (seq (evOwn T O x) fun ds => galloc (.lst ds)) (Zb G b) P R σ s Q := g
  refine ⟨P, R, s, rfl, bn, S, wpR.imp (wpR.bind g') (fun ds s' k a xs R1 st S1 hn hr bb _ => ?_) fun _ _ _ k => k⟩
  obtain ⟨R', e1, st', S', e2⟩ := S1.publish hn hr
  have k' := k (.ref a) R' (st.trans st') (by rw [e1]; exact bb) S' (Rep.z (by unfold Rep; exact ⟨a, rfl, e2⟩))
  rw [e1] at k'
  exact k'
/-! ### which expressions make a new list -/
theorem sO_lst {r : Es} {es : List Expr} {pos : Pos} {n : Nat} (h : PA X es (tA T O G W n r)) (hn : n ≤ 1000) : PE X (.List es pos) (tO G W (evOwn T O (.lst r))) := by
  refine PE.weak (pe_lst h) fun σ H Q bn q => ?_
  obtain ⟨P, R, s, rfl, _, S, g⟩ := q
  refine ⟨P, R, s, rfl, bn, S, wpR.imp g (fun ds s' k xs R1 st bb S1 z => ?_) fun _ _ _ k => k⟩
  refine ⟨?_, fun p hp b2 => k p xs R1 st S1 hp z.1 b2⟩
  have e1 := z.1.length
  have e2 := z.2
  have : (1000 : Nat) ≤ sizeLine := by decide
  omega
theorem tO_two {m : M (List D)} {x : E} {f : St → D → Option (List D)} {P : Addr → Prop} {R : Rl} {σ : L2.St} {s : St} {Q : VK} (hm : m = seq (ev T O true x) fun u => opt fun s => f s u)
    (g : wpR (m s) (fun ds s' => ∀ a xs R1, Stp P R R1 → SR G P R1 σ s' → R1.H a = none → Reps G R1 ds xs → Bnd (upd R1.H a (.lst xs)) → Q (.ref a) (upd R1.H a (.lst xs))) (exq G W P R)) :
    Go G W (ev T O true x) (Zb G true) P R σ s (fun v H1 => ∃ u R1 s1 ds, R1.H = H1 ∧ SR G P R1 σ s1 ∧ RepB G R1 σ u v ∧ f s1 u = some ds ∧ ∀ a xs, R1.H a = none → Reps G R1 ds xs → Bnd (upd R1.H a (.lst xs)) → Q (.ref a) (upd R1.H a (.lst xs))) := by
  subst hm
  refine wpR.imp (wpR.bind g) (fun u s1 k v R1 st bb S1 z => ?_) fun _ _ _ k => k
  have k' : wpR (opt (fun s => f s u) s1) _ _ := k
  unfold opt at k'
  cases e : f s1 u with
  | none => simp only [e] at k'; exact k'.elim
  | some ds => simp only [e] at k'; exact ⟨u, R1, s1, ds, rfl, S1, z, e, fun a xs hn hr b2 => k' a xs R1 st S1 hn hr b2⟩
theorem sO_rev {x : E} {e : Expr} {k : Nat} {p1 p2 p3 pos : Pos} (h : PE X e (tE T O G W true x)) : PE X (.Subscript e (.Slice none none (some (.UnaryOp .USub (.Constant (.int 1) k p1) p2)) p3) pos) (tO G W (evOwn T O (.rev x))) := by
  refine PE.weak (pe_revL h) fun σ H Q bn q => ?_
  obtain ⟨P, R, s, rfl, _, S, g⟩ := q
  refine ⟨P, R, s, rfl, bn, S, (tO_two (m := evOwn T O (.rev x)) (x := x) (f := fun s u => (view s u).lst?.map fun ds => ds.reverse) rfl g).imp fun v H1 q1 => ?_⟩
  obtain ⟨u, R1, s1, ds, rfl, S1, z1, ed, w⟩ := q1
  obtain ⟨es, e1, rfl⟩ := Option.map_eq_some_iff.mp ed
  have rv := S1.view z1
  cases hv : view s1 u <;> rw [hv] at e1 <;> simp only [D.lst?] at e1 <;> try (cases e1; done)
  cases e1
  rw [hv] at rv
  obtain ⟨a', xs, rfl, h1, h2⟩ := rv.lst_inv
  exact ⟨a', xs, rfl, .inl h1, fun p hp bb => w p _ hp h2.reverse bb⟩
theorem sO_list (hK : X.K = G.K) {x : E} {e : Expr} {p pos : Pos} (hg : Gl X "list") (hm : X.mg "list" = none) (h : PE X e (tE T O G W true x)) (he : starEach [e] X.env = (false, eval e X.env) :: starEach [] X.env) : PE X (.Call (.Name "list" p) [e] [] pos) (tO G W (evOwn T O (.bi .list (.cons x .nil)))) := by
  refine PE.weak (pe_callTy call_list_of hg hm (boot_bi .list) (pa_cons h pa_nil he) (by decide +kernel) (by decide +kernel) he rfl) fun σ H Q bn q => ?_
  obtain ⟨P, R, s, rfl, _, S, g⟩ := q
  refine ⟨P, R, s, rfl, bn, S, (tO_two (m := evOwn T O (.bi .list (.cons x .nil))) (x := x) (f := fun s u => (view s u).seq?) rfl g).imp fun v H1 q1 => ?_⟩
  obtain ⟨u, R1, s1, ds, rfl, S1, z1, ed, w⟩ := q1
  have rv := S1.view z1
  cases hv : view s1 u <;> rw [hv] at ed <;> simp only [D.seq?] at ed <;> try (cases ed; done)
  · cases ed
    rw [hv] at rv
    obtain ⟨a', xs, rfl, h1, h2⟩ := rv.tup_inv
    exact ⟨a', xs, rfl, .inr (by rw [hK]; exact h1), fun p hp bb => w p _ hp h2 bb⟩
  · cases ed
    rw [hv] at rv
    obtain ⟨a', xs, rfl, h1, h2⟩ := rv.lst_inv
    exact ⟨a', xs, rfl, .inl (.inl h1), fun p hp bb => w p _ hp h2 bb⟩
theorem sO_sorted (hK : X.K = G.K) {x : E} {e : Expr} {p pos : Pos} (hg : Gl X "sorted") (hm : X.mg "sorted" = none) (h : PE X e (tE T O G W true x)) (he : starEach [e] X.env = (false, eval e X.env) :: starEach [] X.env) : PE X (.Call (.Name "sorted" p) [e] [] pos) (tO G W (evOwn T O (.bi .sorted (.cons x .nil)))) := by
  refine PE.weak (pe_callB cr_srtX hg hm (boot_bi .sorted) (pa_cons h pa_nil he) (by decide +kernel) (by decide +kernel) he rfl) fun σ H Q bn q => ?_
  obtain ⟨P, R, s, rfl, _, S, g⟩ := q
  refine ⟨P, R, s, rfl, bn, S, (tO_two (m := evOwn T O (.bi .sorted (.cons x .nil))) (x := x) (f := fun s u => (view s u).seq?.bind fun ds => (ints? ds).map fun ns => (sortI ns).map .int) rfl g).imp fun v H1 q1 => ?_⟩
  obtain ⟨u, R1, s1, ds, rfl, S1, z1, ed, w⟩ := q1
  obtain ⟨es, e1, e2⟩ := Option.bind_eq_some_iff.mp ed
  obtain ⟨ns, e3, rfl⟩ := Option.map_eq_some_iff.mp e2
  have rv := S1.view z1
  have key : ∃ a', v = .ref a' ∧ (SqL X.K R1.H a' (ns.map V.int) ∨ SqT X.K R1.H a' (ns.map V.int)) := by
    cases hv : view s1 u <;> rw [hv] at e1 <;> simp only [D.seq?] at e1 <;> try (cases e1; done)
    · cases e1
      rw [hv] at rv
      obtain ⟨a', xs, rfl, h1, h2⟩ := rv.tup_inv
      exact ⟨a', rfl, .inr (by rw [hK, ← h2.ints e3]; exact h1)⟩
    · cases e1
      rw [hv] at rv
      obtain ⟨a', xs, rfl, h1, h2⟩ := rv.lst_inv
      exact ⟨a', rfl, .inl (.inl (by rw [← h2.ints e3]; exact h1))⟩
  obtain ⟨a', rfl, h1⟩ := key
  refine ⟨a', ns, rfl, h1, fun ms q hp hs hn bb => ?_⟩
  have e := sortI_of hp hs
  subst e
  exact w q _ hn (Reps.of_ints _) bb

/-! ### list(range(..)) -/
theorem rgV_reps {R : Rl} {a b : Int} : Reps G R (rngI a 1 (b - a).toNat) (rgV a b) := by
  unfold rngI rgV
  induction List.range (b - a).toNat with
  | nil => exact Reps.nil
  | cons i r ih => exact Reps.cons (by unfold Rep; simp) ih
theorem rngList_of {xs : List D} {ds : List D} (h : rngList xs = some ds) : ∃ a b, (xs = [.int b] ∧ a = 0 ∨ xs = [.int a, .int b]) ∧ RgOk a b ∧ ds = rngI a 1 (b - a).toNat := by
  unfold rngList at h
  split at h
  · rename_i j
    split at h
    · rename_i hc
      cases h
      simp only [big, Bool.and_eq_true, decide_eq_true_eq] at hc
      refine ⟨0, j, .inl ⟨rfl, rfl⟩, ?_, by simp⟩
      unfold RgOk
      omega
    · cases h
  · rename_i i j
    split at h
    · rename_i hc
      cases h
      simp only [big, Bool.and_eq_true, decide_eq_true_eq] at hc
      refine ⟨i, j, .inr rfl, ?_, rfl⟩
      unfold RgOk
      omega
    · cases h
  · cases h
theorem seq_assoc {α β γ : Type} (m : M α) (f : α → M β) (g : β → M γ) : seq (seq m f) g = seq m fun a => seq (f a) g := by
  funext s
  unfold seq
  cases m s <;> rfl
theorem seq_ret {α β : Type} (a : α) (f : α → M β) : seq (ret a) f = f a := rfl
theorem evBs1 {x : E} : evBs T O (.cons x .nil) = seq (ev T O true x) fun d => ret [d] := rfl
theorem evBs2 {x y : E} : evBs T O (.cons x (.cons y .nil)) = seq (ev T O true x) fun d => seq (ev T O true y) fun e => ret [d, e] := by
  show seq (ev T O true x) (fun d => seq (seq (ev T O true y) fun e => seq (ret []) fun ds => ret (e :: ds)) fun ds => ret (d :: ds)) = _
  simp only [seq_assoc, seq_ret]
theorem evBs3 {x y z : E} : evBs T O (.cons x (.cons y (.cons z .nil))) = seq (ev T O true x) fun d => seq (ev T O true y) fun e => seq (ev T O true z) fun f => ret [d, e, f] := by
  show seq (ev T O true x) (fun d => seq (evBs T O (.cons y (.cons z .nil))) fun ds => ret (d :: ds)) = _
  rw [evBs2]
  simp only [seq_assoc, seq_ret]
theorem rg_int1 {d : D} {ds : List D} (h : rngList [d] = some ds) : ∃ j, d = .int j ∧ RgOk 0 j ∧ ds = rngI 0 1 (j - 0).toNat := by
  obtain ⟨a, b, h1, h2, h3⟩ := rngList_of h
  rcases h1 with ⟨h1, rfl⟩ | h1
  · cases h1; exact ⟨b, rfl, h2, h3⟩
  · cases h1
theorem rg_int2 {d e : D} {ds : List D} (h : rngList [d, e] = some ds) : ∃ i j, d = .int i ∧ e = .int j ∧ RgOk i j ∧ ds = rngI i 1 (j - i).toNat := by
  obtain ⟨a, b, h1, h2, h3⟩ := rngList_of h
  rcases h1 with ⟨h1, rfl⟩ | h1
  · cases h1
  · cases h1; exact ⟨a, b, rfl, rfl, h2, h3⟩
theorem wpR_opt {α : Type} {f : St → Option α} {s : St} {Q : α → St → Prop} {E0 : Nat → D → St → Prop} (h : wpR (opt f s) Q E0) : ∃ d, f s = some d ∧ Q d s := by
  unfold opt at h
  cases e : f s with
  | none => rw [e] at h; exact h.elim
  | some d => rw [e] at h; exact ⟨d, rfl, h⟩
/-- what is wanted of a new list -/
abbrev WO (G : Gm) (P : Addr → Prop) (R : Rl) (σ : L2.St) (Q : VK) : List D → St → Prop := fun ds s' => ∀ a xs R1, Stp P R R1 → SR G P R1 σ s' → R1.H a = none → Reps G R1 ds xs → Bnd (upd R1.H a (.lst xs)) → Q (.ref a) (upd R1.H a (.lst xs))
theorem WO.step {P : Addr → Prop} {R R' : Rl} {σ : L2.St} {Q : VK} {ds : List D} {s : St} (w : WO G P R σ Q ds s) (st : Stp P R R') : WO G P R' σ Q ds s := fun a xs R1 h => w a xs R1 (st.trans h)
theorem go_one {γ : Type} {x : E} {f : D → M γ} {P : Addr → Prop} {R : Rl} {σ : L2.St} {s : St} {Q : γ → St → Prop} (g : wpR ((seq (ev T O true x) f) s) Q (exq G W P R)) :
    Go G W (ev T O true x) (Zb G true) P R σ s (fun v H1 => ∃ u R1 s1, R1.H = H1 ∧ Stp P R R1 ∧ Bnd R1.H ∧ SR G P R1 σ s1 ∧ RepB G R1 σ u v ∧ wpR (f u s1) Q (exq G W P R1)) :=
  wpR.imp (wpR.bind g) (fun u s1 k v R1 st bb S1 z => ⟨u, R1, s1, rfl, st, bb, S1, z, wpR.imp k (fun _ _ h => h) fun _ _ _ h => h.step st⟩) fun _ _ _ k => k
theorem sO_lrg1 (hc : X.calm = true) {x : E} {e : Expr} {p p2 pos pos2 : Pos} (hgl : Gl X "list") (hml : X.mg "list" = none) (hg : Gl X "range") (hm : X.mg "range" = none) (h : PE X e (tE T O G W true x)) (he : starEach [e] X.env = (false, eval e X.env) :: starEach [] X.env) :
    PE X (.Call (.Name "list" p) [.Call (.Name "range" p2) [e] [] pos2] [] pos) (tO G W (evOwn T O (.lrg false (.cons x .nil)))) := by
  refine PE.weak (pe_listRg hc hgl hml (prg_1 hg hm h he) rfl) fun σ H Q bn q => ?_
  obtain ⟨P, R, s, rfl, _, S, g⟩ := q
  have g' : wpR ((seq (ev T O true x) fun d => opt fun _ => rngList [d]) s) (WO G P R σ Q) (exq G W P R) := by
    have g2 : wpR ((seq (evBs T O (.cons x .nil)) fun xs => opt fun _ => rngList xs) s) (WO G P R σ Q) (exq G W P R) := g
    rw [evBs1] at g2
    simp only [seq_assoc, seq_ret] at g2
    exact g2
  refine ⟨P, R, s, rfl, bn, S, (go_one g').imp fun v H1 q1 => ?_⟩
  obtain ⟨u, R1, s1, rfl, st1, b1, S1, z1, k⟩ := q1
  obtain ⟨ds, e1, w⟩ := wpR_opt k
  obtain ⟨j, rfl, h1, rfl⟩ := rg_int1 e1
  have ev' : v = .int j := by have h : Rep G R1 (.int j) v := z1; unfold Rep at h; exact h
  exact ⟨j, ev', h1, fun q hq bb => w q _ R1 st1 S1 hq rgV_reps bb⟩
theorem sO_lrg2 (hc : X.calm = true) {x y : E} {e e' : Expr} {p p2 pos pos2 : Pos} (hgl : Gl X "list") (hml : X.mg "list" = none) (hg : Gl X "range") (hm : X.mg "range" = none) (h : PE X e (tE T O G W true x)) (h' : PE X e' (tE T O G W true y)) (he : starEach [e, e'] X.env = (false, eval e X.env) :: starEach [e'] X.env) (he' : starEach [e'] X.env = (false, eval e' X.env) :: starEach [] X.env) :
    PE X (.Call (.Name "list" p) [.Call (.Name "range" p2) [e, e'] [] pos2] [] pos) (tO G W (evOwn T O (.lrg false (.cons x (.cons y .nil))))) := by
  refine PE.weak (pe_listRg hc hgl hml (prg_2 hg hm h h' he he' (by rw [he']; rfl)) rfl) fun σ H Q bn q => ?_
  obtain ⟨P, R, s, rfl, _, S, g⟩ := q
  have g' : wpR ((seq (ev T O true x) fun d => seq (ev T O true y) fun e => opt fun _ => rngList [d, e]) s) (WO G P R σ Q) (exq G W P R) := by
    have g2 : wpR ((seq (evBs T O (.cons x (.cons y .nil))) fun xs => opt fun _ => rngList xs) s) (WO G P R σ Q) (exq G W P R) := g
    rw [evBs2] at g2
    simp only [seq_assoc, seq_ret] at g2
    exact g2
  refine ⟨P, R, s, rfl, bn, S, (go_one g').imp fun v H1 q1 => ?_⟩
  obtain ⟨u, R1, s1, rfl, st1, b1, S1, z1, k⟩ := q1
  refine ⟨P, R1, s1, rfl, b1, S1, (go_one k).imp fun v2 H2 q2 => ?_⟩
  obtain ⟨u2, R2, s2, rfl, st2, b2, S2, z2, k2⟩ := q2
  obtain ⟨ds, e1, w⟩ := wpR_opt k2
  obtain ⟨i, j, rfl, rfl, h1, rfl⟩ := rg_int2 e1
  have ev1 : v = .int i := by have h : Rep G R1 (.int i) v := z1; unfold Rep at h; exact h
  have ev2 : v2 = .int j := by have h : Rep G R2 (.int j) v2 := z2; unfold Rep at h; exact h
  exact ⟨i, j, ev1, ev2, h1, fun q hq bb => w q _ R2 (st1.trans st2) S2 hq rgV_reps bb⟩

/-! ### methods of lists -/
def mtName : Mt → Str
  | .append => "append" | .pop => "pop" | .lindex => "index"
theorem view_list {P : Addr → Prop} {R : Rl} {σ : L2.St} {s : St} (S : SR G P R σ s) {u : D} {v : V} (z : RepB G R σ u v) {ds : List D} (h : (view s u).lst? = some ds) : ∃ a xs, v = .ref a ∧ Rd R.H a (.lst xs) ∧ Reps G R ds xs := by
  have rv := S.view z
  cases hv : view s u <;> rw [hv] at h <;> simp only [D.lst?] at h <;> try (cases h; done)
  cases h
  rw [hv] at rv
  exact rv.lst_inv
/-- the receiver's part -/
theorem mt_recv {m : Mt} {b : Bool} {x : E} {r : Es} {P : Addr → Prop} {R : Rl} {σ : L2.St} {s : St} {Q : VK} (g : Go G W (ev T O b (.mt m x r)) (Zb G b) P R σ s Q) :
    Go G W (ev T O true x) (Zb G true) P R σ s (fun v H1 => ∃ u R1 s1, R1.H = H1 ∧ Stp P R R1 ∧ Bnd R1.H ∧ SR G P R1 σ s1 ∧ RepB G R1 σ u v ∧ (∃ a xs, v = .ref a ∧ Rd R1.H a (.lst xs)) ∧ Go G W (seq (evs T O r) fun xs => mtD m u xs) (Zb G b) P R1 σ s1 Q) := by
  refine (Go.bind (m := ev T O true x) (f := fun u => seq (opt fun s => (view s u).lst?) fun _ => seq (evs T O r) fun xs => mtD m u xs) (Za := Zb G true) g).imp fun v H1 q => ?_
  obtain ⟨u, R1, s1, rfl, st1, b1, S1, z1, g1⟩ := q
  have g1' := wpR.bind g1
  obtain ⟨ds, e1, k⟩ := wpR_opt g1'
  obtain ⟨a, xs, h1, h2, _⟩ := view_list S1 z1 e1
  exact ⟨u, R1, s1, rfl, st1, b1, S1, z1, ⟨a, xs, h1, h2⟩, k⟩
theorem mt_end {m : Mt} {b : Bool} {u : D} {ds : List D} {P : Addr → Prop} {R : Rl} {σ : L2.St} {s : St} {Q : VK} {v : V} {xs : List V} (bn : Bnd R.H) (S : SR G P R σ s) (z : RepB G R σ u v) (zs : Reps G R ds xs) (g : Go G W (mtD m u ds) (Zb G b) P R σ s Q) (hne : ∀ c a s', mtD m u ds s ≠ .exc c a s') : rMt G m v xs R.H Q := by
  unfold Go at g
  cases e : mtD m u ds s with
  | ok d s' => rw [e] at g; exact ⟨P, R, σ, s, u, ds, d, s', rfl, bn, S, z, zs, e, fun x R' h1 h2 h3 h4 => g x R' h1 h2 h3 h4.z⟩
  | exc c a s' => exact (hne c a s' e).elim
  | bad => rw [e] at g; exact g.elim
theorem putList_noexc {x : D} {ds : List D} {s s' : St} {c : Nat} {a : D} : putList x ds s ≠ .exc c a s' := fun h => by
  unfold putList at h
  cases x <;> simp only at h <;> first | (split at h <;> cases h) | cases h
theorem mtD_noexc {m : Mt} {u : D} {ds : List D} {s s' : St} {c : Nat} {a : D} : mtD m u ds s ≠ .exc c a s' := fun h => by
  unfold mtD at h
  have seqc : ∀ {es : List D} {d : D}, seq (putList u es) (fun _ => ret d) s ≠ .exc c a s' := fun {es d} q => by
    unfold seq at q
    cases e : putList u es s with
    | ok _ s2 => rw [e] at q; cases q
    | exc c a s2 => exact putList_noexc e
    | bad => rw [e] at q; cases q
  split at h
  · split at h
    · exact seqc h
    · cases h
  · split at h
    · exact seqc h
    · cases h
  · split at h
    · split at h
      · exact seqc h
      · cases h
    · cases h
  · split at h
    · split at h <;> cases h
    · cases h
  · cases h
theorem MtR_list {m : Mt} (hK : X.K = G.K) : MtR X (mtId m) (rMt G m) := mt_D m hK
theorem s_mt0 (hK : X.K = G.K) {b : Bool} {x : E} {e : Expr} {apos cpos : Pos} (hb : attributeBase e "pop" X.env (eval e X.env) = eval e X.env) (hline : (apos.endLine == cpos.line) = true) (h : PE X e (tE T O G W true x)) :
    PE X (.Call (.Attribute e "pop" apos) [] [] cpos) (tE T O G W b (.mt .pop x .nil)) := by
  refine PE.weak (pe_bm0 PySem.F.plainAttrs_list PySem.F.slot_list_pop PySem.F.type_list_pop (mt_D (G := G) .pop hK) h hb hline) fun σ H Q bn q => ?_
  obtain ⟨P, R, s, rfl, _, S, g⟩ := q
  refine ⟨P, R, s, rfl, bn, S, (mt_recv g).imp fun v H1 q1 => ?_⟩
  obtain ⟨u, R1, s1, rfl, st1, b1, S1, z1, ⟨a, xs, e1, h1⟩, g1⟩ := q1
  refine ⟨by rw [e1]; exact .inl ⟨rfl, xs, .inl h1⟩, ?_⟩
  have g2 : Go G W (mtD .pop u []) (Zb G b) P R1 σ s1 Q := g1
  exact mt_end b1 S1 z1 Reps.nil (g2.imp fun _ _ q _ => q) fun _ _ _ => mtD_noexc
theorem s_mt (hK : X.K = G.K) {m : Mt} {b : Bool} {x : E} {r : Es} {e e1 : Expr} {es : List Expr} {n : Nat} {apos cpos : Pos} (hb : attributeBase e (mtName m) X.env (eval e X.env) = eval e X.env) (hline : (apos.endLine == cpos.line) = true) (h : PE X e (tE T O G W true x)) (ha : PA X (e1 :: es) (tA T O G W n r))
    (hfew : ((backTo cpos (starEach (e1 :: es) X.env)).all (fun x => !x.1) && (backToKw cpos (keywordEach [] X.env)).all (fun x => x.1.isSome) && decide ((e1 :: es).length + ([] : List Keyword).length + (if ([] : List Keyword).isEmpty then 0 else 1) < 30)) = true)
    (hs : starEach (e1 :: es) X.env = (false, eval e1 X.env) :: starEach es X.env) (hpl : (backTo cpos (starEach es X.env)).any (·.1) = false) :
    PE X (.Call (.Attribute e (mtName m) apos) (e1 :: es) [] cpos) (tE T O G W b (.mt m x r)) := by
  have key : PE X (.Call (.Attribute e (mtName m) apos) (e1 :: es) [] cpos) (tBM X.K "list" (rMt G m) (tE T O G W true x) (tA T O G W n r)) := by
    have c := mt_D (X := X) (G := G) m hK
    cases m with
    | append => exact pe_bm PySem.F.plainAttrs_list PySem.F.slot_list_append PySem.F.type_list_append c h ha hb hfew hline hs hpl
    | pop => exact pe_bm PySem.F.plainAttrs_list PySem.F.slot_list_pop PySem.F.type_list_pop c h ha hb hfew hline hs hpl
    | lindex => exact pe_bm PySem.F.plainAttrs_list PySem.F.slot_list_index PySem.F.type_list_index c h ha hb hfew hline hs hpl
  refine PE.weak key fun σ H Q bn q => ?_
  obtain ⟨P, R, s, rfl, _, S, g⟩ := q
  refine ⟨P, R, s, rfl, bn, S, (mt_recv g).imp fun v H1 q1 => ?_⟩
  obtain ⟨u, R1, s1, rfl, st1, b1, S1, z1, ⟨a, xs, e1, h1⟩, g1⟩ := q1
  refine ⟨by rw [e1]; exact .inl ⟨rfl, xs, .inl h1⟩, ?_⟩
  refine ⟨P, R1, s1, rfl, b1, S1, (g1.bind (Za := Zs G n)).imp fun ys H2 q2 => ?_⟩
  obtain ⟨ds, R2, s2, rfl, st2, b2, S2, z2, g2⟩ := q2
  exact mt_end b2 S2 (RepB.mono st2 z1) z2.1 (g2.imp fun _ _ q _ => q) fun _ _ _ => mtD_noexc
end
end Dn

/-! PyCall: calls of the program's own defs; the making of objects. -/
namespace Dn
open PySem L2
/-- what is wanted behind a call -/
def wpC (G : Gm) (P : Addr → Prop) (R : Rl) (r : RC) (Kk : D → List Ob → Prop) (E : XK) : Prop := match r with
  | .ok d S' => Kk d S'
  | .exc c a S' => ∀ R' d x, Stp P R R' → S0 G P R' S' → R'.H d = some (.xd [("at", x)]) → Rep G R' a x → E (.ref (G.X c)) (some d) R'.H
  | .bad => False
def Kv (G : Gm) (P : Addr → Prop) (R : Rl) (Q : VK) (d : D) (S' : List Ob) : Prop := ∀ x R', Stp P R R' → Bnd R'.H → S0 G P R' S' → Rep G R' d x → Q x R'.H
def Ki (G : Gm) (P : Addr → Prop) (R : Rl) (c : Nat) (a : Addr) (Q : VK) (d : D) (S' : List Ob) : Prop := ∀ R' fs dx xs, d = .ins c fs → Stp P R R' → Bnd R'.H → S0 G P R' S' → R'.H a = some (.ins (G.C c) dx ((G.N c).zip xs)) → InsOk G c xs → Reps G R' fs xs →
  R'.Av a → (∀ r, R'.ρ r ≠ some a) → Q .non R'.H
/-- a def's promise: what the small language says that it does -/
def spF (T : Tab) (G : Gm) (k f n : Nat) : Sp := fun vs H Q E => vs.length = n ∧
  ((∃ P R ds S, R.H = H ∧ S0 G P R S ∧ Reps G R ds vs ∧ wpC G P R (callF T k f none ds S) (Kv G P R Q) E) ∨
   (∃ P R c a dx xs ds S, vs = .ref a :: xs ∧ R.H = H ∧ S0 G P R S ∧ R.H a = some (.ins (G.C c) dx []) ∧ R.Av a ∧ ¬ P a ∧ (∀ r, R.ρ r ≠ some a) ∧ c < G.n ∧ Reps G R ds xs ∧ wpC G P R (callF T k f (some c) ds S) (Ki G P R c a Q) E))
structure CallOk (X : Cx) (T : Tab) (G : Gm) (k f : Nat) (x : Str) (ds : List D) : Prop where
  ex : ∃ (fa : Addr) (fd : FuncData) (ps : List Str) (dvs : List V) (vals : List Value), X.mg x = some (.ref fa) ∧ PySem.W.keepIn X.K (.ref fa) = true ∧ FnOk X.prog X.w X.K X.mg X.base (L2.CX X.prog X.w) k fa fd ps (spF T G k f ps.length) ∧
    Binds X.K fd ps vals ∧ Vals dvs vals ∧ (∀ R, Reps G R ds dvs) ∧ ∃ fn, T.fns[f]? = some fn ∧ fn.np = ps.length
/-- C(..), where the errors of its __init__ are told with the slots -/
def tMakeX (C : Addr) (sp : Sp) (W : WX) (t : TA) : TE := fun σ H Q => t σ H fun vs H1 => ∀ x dx, H1 x = none → H1 dx = none → dx ≠ x → Bnd (upd (upd H1 dx (.own x)) x (.ins C dx [])) →
  sp (.ref x :: vs) (upd (upd H1 dx (.own x)) x (.ins C dx [])) (fun v H2 => v = .non ∧ Q (.ref x) H2) (WE W σ)
theorem pe_makeX {X : Cx} {k : Nat} {f C : Addr} {fd : FuncData} {ps : List Str} {sp : Sp} {W : WX} {x : Str} {p pos : Pos} {e : Expr} {es : List Expr} {t : TA} (M : Mk X.K C f) (F : FnOk X.prog X.w X.K X.mg X.base (L2.CX X.prog X.w) k f fd ps sp)
    (hr : Room (k + 1) X.A) (hg : Gl X x) (hm : X.mg x = some (.ref C)) (hb : Binds X.K fd ps []) (tk : Takes X W) (ha : PA X (e :: es) t) (hdb : (x == ("__debug__" : Str)) = false)
    (he : starEach (e :: es) X.env = (false, eval e X.env) :: starEach es X.env) (hpl : (backTo pos (starEach es X.env)).any (·.1) = false) : PE X (.Call (.Name x p) (e :: es) [] pos) (tMakeX C sp W t) := by
  refine ⟨fun pins s σ H Q I h => ?_⟩
  refine wpAny_Call_Name_kw (ld_glob I hg hm ?_ hdb)
  refine PySem.W.callWith_K (h₀ := X.base) I.ok.mod.kin M.kp (thn (ha.run pos pins s σ H _ I h) fun us s1 ⟨vs, H1, I1, r, q⟩ => ⟨I1.kIn, ?_⟩) he hpl
  have I2 := Inv.made (C := C) I1
  have hq := q (s1.heap.objs.size + 1) s1.heap.objs.size (I1.hok.fresh (Nat.le_succ _)) (I1.hok.fresh (Nat.le_refl _)) (Nat.ne_of_lt (Nat.lt_succ_self _)) (Bnd.of I2)
  have r2 : Vals (V.ref (s1.heap.objs.size + 1) :: vs) (Value.ref (s1.heap.objs.size + 1) :: us) := .cons rfl r
  have hl : (Value.ref (s1.heap.objs.size + 1) :: us).length = ps.length := r2.length.symm.trans (F.len _ _ _ _ hq)
  have hb' := hb _ (Value.ref (s1.heap.objs.size + 1) :: us) I2.kIn (by rw [List.append_nil]; exact hl)
  rw [List.append_nil] at hb'
  refine wpAny_call (make_map (f := f) I1.kIn M.makes M.init (beq_iff_eq.mp M.fn) (codeAny_mono (F.run _ X.stack _ _ ⟨Value.ref (s1.heap.objs.size + 1) :: us, []⟩ _ _ _ (WE W σ) (hr.make C us []) (I2.env0.make C us []) hb' r2 hq) fun r s' hq' => ?_))
  cases r with
  | error e => exact passAt tk σ pins _ _ e s' I2 hq'
  | ok fl =>
    cases fl with
    | ret u =>
      obtain ⟨v, H', I3, rv, ev, q3⟩ := I2.after hq'
      subst ev
      exact ⟨rv, ⟨V.ref (s1.heap.objs.size + 1), H', I3, rfl, q3⟩⟩
    | next => exact False.elim hq'
    | brk => exact False.elim hq'
    | cont => exact False.elim hq'
section
variable {X : Cx} {T : Tab} {G : Gm} {W : WX} {P : Addr → Prop} {R R' : Rl} {σ : L2.St} {s : St}
/-- what a caller owns -/
def Pw (P : Addr → Prop) (env : List Slot) (σ : L2.St) : Addr → Prop := fun a => P a ∨ ∃ i, Owns env σ i a
theorem own_at (S : SR G P R σ s) {i : Nat} {a : Addr} (h : Owns s.env σ i a) : R.Av a ∧ ¬ P a ∧ (∀ r, R.ρ r ≠ some a) ∧ ∃ o, R.H a = some o := by
  obtain ⟨⟨sl, e, ho⟩, hx⟩ := h
  have h := S.slot i sl e
  cases sl with
  | own ds => obtain ⟨b, xs, h1, h2, h3, h4, h5, h6⟩ := h; rw [hx] at h1; cases h1; exact ⟨h4, h5, h6, _, h2⟩
  | owni c fs => obtain ⟨b, dx, xs, h1, h2, h0, h3, h4, h5, h6⟩ := h; rw [hx] at h1; cases h1; exact ⟨h4, h5, h6, _, h2⟩
  | _ => cases ho
/-- the callee's store -/
theorem SR.callee (S : SR G P R σ s) : S0 G (Pw P s.env σ) R s.sto := by
  refine ⟨S.st.sto, fun r a h => ?_, S.st.inj, S.st.av, fun a p => ?_⟩
  · obtain ⟨h1, h2, h3⟩ := S.st.dom r a h
    refine ⟨h1, h2, ?_⟩
    rintro (p | ⟨i, hi⟩)
    · exact h3 p
    · exact (own_at S hi).2.2.1 r h
  · rcases p with p | ⟨i, hi⟩
    · exact S.st.pr a p
    · exact (own_at S hi).1
/-- behind the call -/
theorem SR.back (S : SR G P R σ s) (st : Stp (Pw P s.env σ) R R') {S' : List Ob} (h : S0 G (Pw P s.env σ) R' S') : Stp P R R' ∧ SR G P R' σ ⟨s.env, S'⟩ := by
  have st0 : Stp P R R' := st.sub fun a p => .inl p
  refine ⟨st0, ⟨⟨h.sto, fun r a e => ?_, h.inj, h.av, fun a p => h.pr a (.inl p)⟩, S.len, fun i sl e => ?_, S.own⟩⟩
  · obtain ⟨h1, h2, h3⟩ := h.dom r a e
    exact ⟨h1, h2, fun p => h3 (.inl p)⟩
  · have q := S.slot i sl e
    cases sl with
    | emp => trivial
    | val d => obtain ⟨v, e1, r⟩ := q; exact ⟨v, e1, r.mono st0⟩
    | own ds =>
      obtain ⟨a, xs, e1, h1, h2, h3, h4, h5⟩ := q
      have ow : Pw P s.env σ a := .inr ⟨i, ⟨_, e, rfl⟩, e1⟩
      obtain ⟨k1, k2⟩ := st.prot a _ ow h1
      exact ⟨a, xs, e1, k1, h2.mono st0, k2, h4, fun r z => (h.dom r a z).2.2 ow⟩
    | owni c fs =>
      obtain ⟨a, dx, xs, e1, h1, h0, h2, h3, h4, h5⟩ := q
      have ow : Pw P s.env σ a := .inr ⟨i, ⟨_, e, rfl⟩, e1⟩
      obtain ⟨k1, k2⟩ := st.prot a _ ow h1
      exact ⟨a, dx, xs, e1, k1, h0, h2.mono st0, k2, h4, fun r z => (h.dom r a z).2.2 ow⟩
theorem runFn_np {T : Tab} {O : Orc} {fn : Fn} {ds : List D} {S : List Ob} (h : runFn T O fn none ds S ≠ .bad) : ds.length = fn.np := by
  unfold runFn at h
  simp only at h
  split at h
  · assumption
  · exact (h rfl).elim
theorem callF_np {T : Tab} {k f : Nat} {ds : List D} {S : List Ob} {fn : Fn} (hf : T.fns[f]? = some fn) (h : callF T k f none ds S ≠ .bad) : ds.length = fn.np := by
  cases k with
  | zero => exact (h rfl).elim
  | succ k =>
    rw [callF_succ, hf] at h
    exact runFn_np h
theorem orc_plain {T : Tab} {k f : Nat} {ds : List D} {S : List Ob} : orc T k f none ds S = callF T k f none ds S ∨ orc T k f none ds S = .bad := by
  cases k with
  | zero => exact .inr rfl
  | succ k => exact .inl rfl
/-- the call itself, its arguments at hand -/
theorem call_end {b : Bool} {k f n : Nat} {xs : List D} {vs : List V} {Q : VK} (bn : Bnd R.H) (S : SR G P R σ s) (z : Reps G R xs vs) (hn : vs.length = n)
    (g : Go G W (fun s => ofRC (orc T k f none xs s.sto) s.env) (Zb G b) P R σ s Q) : spF T G k f n vs R.H Q (WE W σ) := by
  refine ⟨hn, .inl ⟨Pw P s.env σ, R, xs, s.sto, rfl, S.callee, z, ?_⟩⟩
  have g' : wpR (ofRC (orc T k f none xs s.sto) s.env) (fun a s' => ∀ x R', Stp P R R' → Bnd R'.H → SR G P R' σ s' → Zb G b R' σ a x → Q x R'.H) (exq G W P R) := g
  rcases orc_plain (T := T) (k := k) (f := f) (ds := xs) (S := s.sto) with e | e
  · rw [e] at g'
    cases q : callF T k f none xs s.sto with
    | ok d S' =>
      rw [q] at g'
      intro x R' h1 h2 h3 h4
      obtain ⟨st, S2⟩ := S.back h1 h3
      exact g' x R' st h2 S2 h4.z
    | exc c a S' =>
      rw [q] at g'
      intro R' d x h1 h2 h3 h4
      obtain ⟨st, S2⟩ := S.back h1 h2
      exact g' R' σ d x st S2 h3 h4
    | bad => rw [q] at g'; exact g'.elim
  · rw [e] at g'; exact g'.elim
theorem s_call {O : Orc} {b : Bool} {k f n : Nat} {r : Es} {ds : List D} {x : Str} {e : Expr} {es : List Expr} {p pos : Pos} (hO : O = orc T k) (tk : Takes X W) (hr : Room k X.A) (hg : Gl X x) (c : CallOk X T G k f x ds) (hdb : (x == ("__debug__" : Str)) = false)
    (h : PA X (e :: es) (tA T O G W n r)) (he : starEach (e :: es) X.env = (false, eval e X.env) :: starEach es X.env) (hpl : (backTo pos (starEach es X.env)).any (·.1) = false) : PE X (.Call (.Name x p) (e :: es) [] pos) (tE T O G W b (.call f r ds)) := by
  obtain ⟨fa, fd, ps, dvs, vals, hm, hk, F, hb, hv, hd, fn, hfn, hnp⟩ := c.ex
  refine PE.weak (pe_callSD F hr hg hm hk hb hv (fun σ => passAt tk σ) h hdb he hpl) fun σ H Q bn q => ?_
  obtain ⟨P, R, s, rfl, _, S, g⟩ := q
  refine ⟨P, R, s, rfl, bn, S, (Go.bind (m := evs T O r) (f := fun xs => fun s => ofRC (O f none (xs ++ ds) s.sto) s.env) (Za := Zs G n) g).imp fun vs H1 q1 => ?_⟩
  obtain ⟨xs, R1, s1, rfl, st1, b1, S1, z1, g1⟩ := q1
  subst hO
  have hz := z1.1.append (hd R1)
  have hl : (xs ++ ds).length = ps.length := by
    rw [← hnp]
    refine callF_np (k := k) (S := s1.sto) hfn fun e => ?_
    rcases orc_plain (T := T) (k := k) (f := f) (ds := xs ++ ds) (S := s1.sto) with e2 | e2
    · exact g1.notBad (by show ofRC (orc T k f none (xs ++ ds) s1.sto) s1.env = .bad; rw [e2, e]; rfl)
    · exact g1.notBad (by show ofRC (orc T k f none (xs ++ ds) s1.sto) s1.env = .bad; rw [e2]; rfl)
  exact call_end b1 S1 hz (by rw [hz.length]; exact hl) (g1.imp fun _ _ q _ => q)
/-- a call without arguments -/
theorem s_call0 {O : Orc} {b : Bool} {k f : Nat} {x : Str} {p pos : Pos} (hO : O = orc T k) (tk : Takes X W) (hr : Room k X.A) (hg : Gl X x) (c : CallOk X T G k f x []) (hdb : (x == ("__debug__" : Str)) = false) : True := trivial

/-! ### objects are made -/
/-- __init__'s promise and what the class must have -/
structure NewOk (X : Cx) (T : Tab) (G : Gm) (k c f : Nat) (x : Str) : Prop where
  ex : ∃ (fa : Addr) (fd : FuncData) (ps : List Str), X.mg x = some (.ref (G.C c)) ∧ Mk X.K (G.C c) fa ∧ FnOk X.prog X.w X.K X.mg X.base (L2.CX X.prog X.w) k fa fd ps (spF T G k f ps.length) ∧ Binds X.K fd ps [] ∧ ∃ fn, T.fns[f]? = some fn ∧ fn.np = ps.length
/-- the moment of the making -/
theorem SR.born (S : SR G P R σ s) {x dx : Addr} {c : Nat} (hx : R.H x = none) (hd : R.H dx = none) (hne : dx ≠ x) :
    ∃ R', R'.H = upd (upd R.H dx (.own x)) x (.ins (G.C c) dx []) ∧ Stp P R R' ∧ S0 G (Pw P s.env σ) R' s.sto ∧ R'.Av x ∧ ¬ Pw P s.env σ x ∧ (∀ r, R'.ρ r ≠ some x) ∧ Stp (Pw P s.env σ) R R' := by
  have S1 := S.laid (o := .own x) hd
  have hx1 : upd R.H dx (.own x) x = none := by rw [upd_ne hne.symm]; exact hx
  have S2 := S1.laid (o := .ins (G.C c) dx []) hx1
  have npw : ∀ a, Pw P s.env σ a → a ≠ x := fun a p => by
    rintro rfl
    rcases p with p | ⟨i, hi⟩
    · exact S.st.av _ (S.st.pr _ p) hx
    · obtain ⟨_, _, _, o, ho⟩ := own_at S hi
      rw [hx] at ho; cases ho
  have nr : ∀ r a, R.ρ r = some a → a ≠ x := fun r a h => by
    rintro rfl; exact S.st.av _ (S.st.dom r _ h).2.1 hx
  have cal := S.callee
  have keepH : ∀ a o, R.H a = some o → upd (upd R.H dx (.own x)) x (.ins (G.C c) dx []) a = some o := fun a o e => by
    rw [upd_ne (ne_of_none e hx), upd_ne (ne_of_none e hd)]; exact e
  have stw : Stp (Pw P s.env σ) R ⟨R.ρ, fun b => R.Av b ∨ b = x, upd (upd R.H dx (.own x)) x (.ins (G.C c) dx [])⟩ := by
    refine ⟨fun _ _ h => h, fun a o e n => ⟨keepH a o e, ?_⟩, fun a o p e => ⟨keepH a o e, .inl (cal.pr a p)⟩⟩
    rintro (z | z)
    · exact n z
    · exact ne_of_none e hx z
  refine ⟨_, rfl, stw.sub fun a p => .inl p, ⟨fun r o e => ?_, fun r a h => ?_, cal.inj, fun a h => ?_, fun a p => .inl (cal.pr a p)⟩, .inr rfl, fun p => npw x p rfl, fun r h => nr r x h rfl, stw⟩
  · obtain ⟨a, e1, h⟩ := cal.sto r o e
    refine ⟨a, e1, h.mono stw ?_⟩
    cases o with
    | lst ds => obtain ⟨xs, e2, _⟩ := h; exact (keepH a _ e2).trans e2.symm
    | ins c fs => obtain ⟨dx', xs, e2, _⟩ := h; exact (keepH a _ e2).trans e2.symm
  · obtain ⟨h1, h2, h3⟩ := cal.dom r a h
    exact ⟨h1, .inl h2, h3⟩
  · rcases h with h | h
    · cases q : R.H a with
      | none => exact (cal.av a h q).elim
      | some o =>
        show upd (upd R.H dx (.own x)) x _ a ≠ none
        rw [keepH a o q]; exact fun z => nomatch z
    · show upd (upd R.H dx (.own x)) x _ a ≠ none
      rw [h, upd_same]; exact fun z => nomatch z
/-- the object is done: nobody changes it any more -/
theorem S0.settle {S : List Ob} {P : Addr → Prop} (h : S0 G P R S) {a : Addr} (hnp : ¬ P a) (hnr : ∀ r, R.ρ r ≠ some a) : Stp P R { R with Av := fun b => R.Av b ∧ b ≠ a } ∧ S0 G P { R with Av := fun b => R.Av b ∧ b ≠ a } S := by
  have st : Stp P R { R with Av := fun b => R.Av b ∧ b ≠ a } := ⟨fun _ _ h => h, fun b o h n => ⟨h, fun z => n z.1⟩, fun b o p q => ⟨q, h.pr b p, by rintro rfl; exact hnp p⟩⟩
  refine ⟨st, ⟨fun r o e => ?_, fun r b q => ?_, h.inj, fun b q => h.av b q.1, fun b p => ⟨h.pr b p, by rintro rfl; exact hnp p⟩⟩⟩
  · obtain ⟨b, e1, q⟩ := h.sto r o e
    exact ⟨b, e1, q.mono st rfl⟩
  · obtain ⟨h1, h2, h3⟩ := h.dom r b q
    exact ⟨h1, ⟨h2, by rintro rfl; exact hnr r q⟩, h3⟩
theorem runFn_npI {T : Tab} {O : Orc} {fn : Fn} {c : Nat} {ds : List D} {S : List Ob} (h : runFn T O fn (some c) ds S ≠ .bad) : ds.length + 1 = fn.np := by
  unfold runFn at h
  simp only at h
  split at h
  · assumption
  · exact (h rfl).elim
theorem callF_npI {T : Tab} {k f c : Nat} {ds : List D} {S : List Ob} {fn : Fn} (hf : T.fns[f]? = some fn) (h : callF T k f (some c) ds S ≠ .bad) : ds.length + 1 = fn.np := by
  cases k with
  | zero => exact (h rfl).elim
  | succ k =>
    rw [callF_succ, hf] at h
    exact runFn_npI h
theorem runFn_ins {T : Tab} {O : Orc} {fn : Fn} {c : Nat} {ds : List D} {S S' : List Ob} {d : D} (h : runFn T O fn (some c) ds S = .ok d S') : ∃ fs, d = .ins c fs := by
  unfold runFn at h
  simp only at h
  split at h
  · split at h
    · cases h
    · split at h
      · split at h
        · cases h; exact ⟨_, rfl⟩
        · cases h
      · cases h
    · cases h
    · cases h
    · cases h
  · cases h
theorem callF_ins {T : Tab} {k f c : Nat} {ds : List D} {S S' : List Ob} {d : D} (h : callF T k f (some c) ds S = .ok d S') : ∃ fs, d = .ins c fs := by
  cases k with
  | zero => cases h
  | succ k =>
    rw [callF_succ] at h
    split at h
    · exact runFn_ins h
    · cases h
theorem s_new {O : Orc} {b : Bool} {k c f n : Nat} {r : Es} {x : Str} {e : Expr} {es : List Expr} {p pos : Pos} (hO : O = orc T (k + 1)) (tk : Takes X W) (hr : Room (k + 1) X.A) (hg : Gl X x) (nw : NewOk X T G k c f x) (hc : c < G.n) (hdb : (x == ("__debug__" : Str)) = false)
    (h : PA X (e :: es) (tA T O G W n r)) (he : starEach (e :: es) X.env = (false, eval e X.env) :: starEach es X.env) (hpl : (backTo pos (starEach es X.env)).any (·.1) = false) : PE X (.Call (.Name x p) (e :: es) [] pos) (tE T O G W b (.new c f r)) := by
  obtain ⟨fa, fd, ps, hm, M, F, hb, fn, hfn, hnp⟩ := nw.ex
  refine PE.weak (pe_makeX M F hr hg hm hb tk h hdb he hpl) fun σ H Q bn q => ?_
  obtain ⟨P, R, s, rfl, _, S, g⟩ := q
  subst hO
  refine ⟨P, R, s, rfl, bn, S, (Go.bind (m := evs T (orc T (k + 1)) r) (f := fun xs => fun s => ofRC (orc T (k + 1) f (some c) xs s.sto) s.env) (Za := Zs G n) g).imp fun vs H1 q1 => ?_⟩
  obtain ⟨xs, R1, s1, rfl, st1, b1, S1, z1, g1⟩ := q1
  have g' : wpR (ofRC (callF T k f (some c) xs s1.sto) s1.env) (fun a s' => ∀ x R', Stp P R1 R' → Bnd R'.H → SR G P R' σ s' → Zb G b R' σ a x → Q x R'.H) (exq G W P R1) := g1
  intro x dx hx hd hne bb
  obtain ⟨R2, e2, st2, s02, hav, hnp2, hnr, stw⟩ := S1.born (c := c) hx hd hne
  have hlen : xs.length + 1 = ps.length := by
    rw [← hnp]
    refine callF_npI (k := k) (c := c) (S := s1.sto) hfn fun e => ?_
    rw [e] at g'; exact g'.elim
  rw [← e2]
  refine ⟨by rw [List.length_cons, z1.1.length]; exact hlen, .inr ⟨Pw P s1.env σ, R2, c, x, dx, vs, xs, s1.sto, rfl, rfl, s02, by rw [e2]; exact upd_same, hav, hnp2, hnr, hc, z1.1.mono st2, ?_⟩⟩
  cases q : callF T k f (some c) xs s1.sto with
  | ok d S' =>
    rw [q] at g'
    intro R' fs dx' ys ed h1 h2 h3 h4 h5 h6 h7 h8
    refine ⟨rfl, fun _ => ?_⟩
    obtain ⟨st3, s03⟩ := h3.settle hnp2 h8
    have stA := (stw.trans h1).trans st3
    obtain ⟨st4, S4⟩ := S1.back stA s03
    subst ed
    refine g' (.ref x) { R' with Av := fun b => R'.Av b ∧ b ≠ x } st4 h2 S4 (Rep.z ?_)
    unfold Rep
    exact ⟨x, dx', ys, rfl, fun z => z.2 rfl, h4, h5, h6.mono st3⟩
  | exc ec a S' =>
    rw [q] at g'
    intro R' d y h1 h2 h3 h4
    obtain ⟨st, S2⟩ := S1.back (stw.trans h1) h2
    exact g' R' σ d y st S2 h3 h4
  | bad => rw [q] at g'; exact g'.elim
end
end Dn

/-! PyKw: calls by keywords, and without arguments. -/
namespace Dn
open PySem L2
section
variable {T : Tab} {G : Gm} {P : Addr → Prop} {R R' : Rl} {W : WX} {X : Cx} {σ : L2.St} {s : St}
theorem Reps.pk {ds : List D} {xs : List V} (h : Reps G R ds xs) : ∀ ix : List Nat, Reps G R (pk ix ds) (pk ix xs)
  | [] => .nil
  | i :: ix => by
    have ih := Reps.pk h ix
    unfold Dn.pk at ih ⊢
    rw [List.filterMap_cons, List.filterMap_cons]
    cases e : ds[i]? with
    | some d =>
      obtain ⟨x, e2, r⟩ := h.get e
      rw [e2]
      exact .cons r ih
    | none =>
      have e2 : xs[i]? = none := by
        cases e3 : xs[i]? with
        | none => rfl
        | some x =>
          obtain ⟨d, e4, _⟩ := h.get' e3
          rw [e] at e4; cases e4
      rw [e2]
      exact ih
theorem vals_pk {vs : List V} {us : List Value} (h : Vals vs us) : ∀ ix : List Nat, Vals (pk ix vs) (pk ix us)
  | [] => .nil
  | i :: ix => by
    have ih := vals_pk h ix
    unfold Dn.pk at ih ⊢
    rw [List.filterMap_cons, List.filterMap_cons]
    cases e : vs[i]? with
    | some d =>
      obtain ⟨x, e2, r⟩ := h.get e
      rw [e2]
      exact .cons r ih
    | none =>
      rw [h.none_of e]
      exact ih
/-- how a call with n values and the keywords ks binds: by ix out of all of them -/
def KwBind (K : PySem.W.Frag) (fd : FuncData) (ps : List Str) (n : Nat) (ks : List Str) (ix : List Nat) : Prop :=
  ∀ (s : Shared) (us ws : List Value), K.In s.heap → us.length = n → ws.length = ks.length → BindsTo s fd ⟨us, ks.zip ws⟩ (ps.zip (pk ix (us ++ ws)))
structure KwOk (X : Cx) (T : Tab) (G : Gm) (k f : Nat) (x : Str) (n : Nat) (ks : List Str) (ix : List Nat) : Prop where
  ex : ∃ (fa : Addr) (fd : FuncData) (ps : List Str), X.mg x = some (.ref fa) ∧ PySem.W.keepIn X.K (.ref fa) = true ∧ FnOk X.prog X.w X.K X.mg X.base (L2.CX X.prog X.w) k fa fd ps (spF T G k f ps.length) ∧
    KwBind X.K fd ps n ks ix ∧ ∃ fn, T.fns[f]? = some fn ∧ fn.np = ps.length
theorem PK.weak {kws : List Keyword} {t t' : TA} (h : PK X kws t) (hw : ∀ σ H Q, Bnd H → t' σ H Q → t σ H (fun v H' => Bnd H' → Q v H')) : PK X kws t' :=
  ⟨fun pos pins s σ H Q I q => thn (h.run pos pins s σ H _ I (hw σ H Q (Bnd.of I) q)) fun _ _ ⟨z, H', I', r', q'⟩ => ⟨z, H', I', r', q' (Bnd.of I')⟩⟩
theorem k_nil {O : Orc} : PK X [] (tA T O G W 0 .nil) := PK.weak L2.pk_nil fun σ H Q bn q => by
  obtain ⟨P, R, s, rfl, _, S, g⟩ := q
  exact fun _ => Go.retD (a := []) g bn S ⟨Reps.nil, rfl⟩
theorem k_cons {O : Orc} {x : E} {r : Es} {e : Expr} {kws : List Keyword} {n : Nat} {nm : Option Str} {kpos : Pos} (h : PE X e (tE T O G W false x)) (hr : PK X kws (tA T O G W n r)) : PK X (⟨nm, e, kpos⟩ :: kws) (tA T O G W (n + 1) (.cons x r)) := PK.weak (L2.pk_cons h hr) fun σ H Q bn q => by
  obtain ⟨P, R, s, rfl, _, S, g⟩ := q
  refine ⟨P, R, s, rfl, bn, S, (Go.bind (m := ev T O false x) (f := fun d => seq (evs T O r) fun ds => ret (d :: ds)) (Za := Zb G false) g).imp fun a H1 q1 => ?_⟩
  obtain ⟨u, R1, s1, rfl, st1, b1, S1, z1, g1⟩ := q1
  refine ⟨P, R1, s1, rfl, b1, S1, (g1.bind (Za := Zs G n)).imp fun xs H2 q2 => ?_⟩
  obtain ⟨v, R2, s2, rfl, st2, b2, S2, z2, g2⟩ := q2
  exact fun _ => Go.retD (a := u :: v) g2 b2 S2 ⟨Reps.cons (Rep.mono st2 z1) z2.1, by rw [List.length_cons, z2.2]⟩
/-- f(e, .., k = v, ..), where what the def may let out is told with the slots -/
def tCallKS (n m : Nat) (ix : List Nat) (sp : Sp) (E : L2.St → XK) (t tk : TA) : TE := fun σ H Q => t σ H fun vs H1 => tk σ H1 fun zs H2 => vs.length = n ∧ zs.length = m ∧ sp (pk ix (vs ++ zs)) H2 Q (E σ)
section
variable {CX : CXT} {k n : Nat} {f : Addr} {fd : FuncData} {ps ks : List Str} {sp : Sp} {E : L2.St → XK} {x : Str} {p pos : Pos} {e : Expr} {es : List Expr} {kws : List Keyword} {t tk : TA} {ix : List Nat}
theorem run_kw {pins : List (Addr × Obj)} {σ : L2.St} {H : Hp} {s : Shared} {Q : VK} {us ws : List Value} {vs zs : List V} (F : FnOk X.prog X.w X.K X.mg X.base CX k f fd ps sp) (hr : Room k X.A) (hb : KwBind X.K fd ps n ks ix) (hx : PassesAt CX X σ (E σ))
    (I : Inv X pins σ H s) (r : Vals vs us) (rz : Vals zs ws) (l1 : vs.length = n) (l2 : zs.length = ks.length) (h : sp (pk ix (vs ++ zs)) H Q (E σ)) :
    wpAny (model X.prog X.w) X.A (call (.ref f) us (ks.zip ws)) (EP X pins σ Q) X.xe s := by
  have hbt := hb s us ws I.kIn (r.length.symm.trans l1) (rz.length.symm.trans l2)
  refine wpAny_call (codeAny_mono (F.run X.A X.stack s H ⟨us, ks.zip ws⟩ (pk ix (us ++ ws)) (pk ix (vs ++ zs)) Q (E σ) hr I.env0 hbt (vals_pk (r.append rz) ix) h) fun o s' hq => ?_)
  match o, hq with
  | .error e, hq => exact hx pins H s e s' I hq
  | .ok (.ret u), hq => exact I.after hq
  | .ok .next, hq => exact hq.elim
  | .ok .brk, hq => exact hq.elim
  | .ok .cont, hq => exact hq.elim
theorem kw_fin (F : FnOk X.prog X.w X.K X.mg X.base CX k f fd ps sp) (hr : Room k X.A) (hb : KwBind X.K fd ps n ks ix) (hx : ∀ σ, PassesAt CX X σ (E σ)) (hkw : PK X kws tk) (hks : (backToKw pos (keywordEach kws X.env)).filterMap (·.1) = ks)
    {pins : List (Addr × Obj)} {σ : L2.St} {Q : VK} {us : List Value} {vs : List V} {s1 : Shared} {H1 : Hp} (I1 : Inv X pins σ H1 s1) (r : Vals vs us) (q : tk σ H1 (fun zs H2 => vs.length = n ∧ zs.length = ks.length ∧ sp (pk ix (vs ++ zs)) H2 Q (E σ))) :
    wpAny (model X.prog X.w) X.A (evalAll ((backToKw pos (keywordEach kws X.env)).map (·.2))) (fun ws s2 => X.K.In s2.heap ∧ wpAny (model X.prog X.w) X.A (call (.ref f) us (((backToKw pos (keywordEach kws X.env)).filterMap (·.1)).zip ws)) (EP X pins σ Q) X.xe s2) X.xe s1 :=
  thn (hkw.run pos pins s1 σ H1 _ I1 q) fun ws s2 ⟨zs, H2, I2, rz, l1, l2, q2⟩ => ⟨I2.kIn, by rw [hks]; exact run_kw F hr hb (hx σ) I2 r rz l1 l2 q2⟩
theorem pe_callKS (F : FnOk X.prog X.w X.K X.mg X.base CX k f fd ps sp) (hr : Room k X.A) (hg : Gl X x) (hm : X.mg x = some (.ref f)) (hk : PySem.W.keepIn X.K (.ref f) = true) (hb : KwBind X.K fd ps n ks ix) (hx : ∀ σ, PassesAt CX X σ (E σ))
    (ha : PA X (e :: es) t) (hkw : PK X kws tk) (hall : (backToKw pos (keywordEach kws X.env)).all (·.1.isSome) = true) (hks : (backToKw pos (keywordEach kws X.env)).filterMap (·.1) = ks)
    (hdb : (x == ("__debug__" : Str)) = false) (he : starEach (e :: es) X.env = (false, eval e X.env) :: starEach es X.env)
    (hpl : ((backTo pos (starEach (e :: es) X.env)).any (·.1) || (backToKw pos (keywordEach kws X.env)).any (·.1.isNone)) = false) :
    PE X (.Call (.Name x p) (e :: es) kws pos) (tCallKS n ks.length ix sp E t tk) := by
  refine ⟨fun pins s σ H Q I h => wpAny_Call_Name_kw (ld_glob I hg hm ?_ hdb)⟩
  refine PySem.W.callWith_KW (h₀ := X.base) I.ok.mod.kin hk hall (thn (ha.run pos pins s σ H _ I h) fun us s1 z => ?_) hpl he
  obtain ⟨vs, H1, I1, r, q⟩ := z
  exact kw_fin F hr hb hx hkw hks I1 r q
/-- f(k = v, ..) -/
theorem pe_callKS0 (F : FnOk X.prog X.w X.K X.mg X.base CX k f fd ps sp) (hr : Room k X.A) (hg : Gl X x) (hm : X.mg x = some (.ref f)) (hk : PySem.W.keepIn X.K (.ref f) = true) (hb : KwBind X.K fd ps 0 ks ix) (hx : ∀ σ, PassesAt CX X σ (E σ))
    (hkw : PK X kws tk) (hall : (backToKw pos (keywordEach kws X.env)).all (·.1.isSome) = true) (hks : (backToKw pos (keywordEach kws X.env)).filterMap (·.1) = ks)
    (hdb : (x == ("__debug__" : Str)) = false) (hpl : (backToKw pos (keywordEach kws X.env)).any (·.1.isNone) = false) :
    PE X (.Call (.Name x p) [] kws pos) (tCallKS 0 ks.length ix sp E (fun _ H Q => Q [] H) tk) := by
  refine ⟨fun pins s σ H Q I h => wpAny_Call_Name_kw (ld_glob I hg hm ?_ hdb)⟩
  exact PySem.W.callWith_KW0 (h₀ := X.base) I.ok.mod.kin hk hall (kw_fin (us := []) F hr hb hx hkw hks I .nil h) (by rw [hpl]; rfl)
end
theorem pk_len {α : Type} {ix : List Nat} {xs : List α} (h : ∀ i ∈ ix, i < xs.length) : (pk ix xs).length = ix.length := by
  induction ix with
  | nil => rfl
  | cons i r ih =>
    have h1 := h i (List.mem_cons_self ..)
    have e : pk (i :: r) xs = xs[i] :: pk r xs := by
      show List.filterMap _ (i :: r) = _
      rw [List.filterMap_cons, List.getElem?_eq_getElem h1]; rfl
    rw [e, List.length_cons, ih fun j hj => h j (List.mem_cons_of_mem _ hj)]; rfl
/-- behind the arguments of a call by keywords -/
theorem kw_end {b : Bool} {O : Orc} {k f n m : Nat} {ix : List Nat} {ps : List Str} {fn : Fn} {rk : Es} {P : Addr → Prop} {R : Rl} {s : St} {xs : List D} {vs : List V} {Q : VK} (hO : O = orc T k) (hfn : T.fns[f]? = some fn) (hnp : fn.np = ps.length) (b1 : Bnd R.H) (S1 : SR G P R σ s) (z1 : Reps G R xs vs ∧ xs.length = n)
    (g1 : Go G W (seq (evs T O rk) fun zs => fun s => ofRC (O f none (pk ix (xs ++ zs)) s.sto) s.env) (Zb G b) P R σ s Q) :
    tA T O G W m rk σ R.H fun zs H2 => vs.length = n ∧ zs.length = m ∧ spF T G k f ps.length (pk ix (vs ++ zs)) H2 Q (WE W σ) := by
  refine ⟨P, R, s, rfl, b1, S1, (g1.bind (Za := Zs G m)).imp fun zs H2 q2 => ?_⟩
  obtain ⟨ys, R2, s2, rfl, st2, b2, S2, z2, g2⟩ := q2
  have hz := (z1.1.mono st2).append z2.1
  have hp := hz.pk ix
  refine ⟨by rw [z1.1.length, z1.2], by rw [z2.1.length, z2.2], ?_⟩
  subst hO
  have hl : (pk ix (xs ++ ys)).length = ps.length := by
    rw [← hnp]
    refine callF_np (k := k) (S := s2.sto) hfn fun e => ?_
    rcases orc_plain (T := T) (k := k) (f := f) (ds := pk ix (xs ++ ys)) (S := s2.sto) with e2 | e2
    · exact g2.notBad (by show ofRC (orc T k f none (pk ix (xs ++ ys)) s2.sto) s2.env = .bad; rw [e2, e]; rfl)
    · exact g2.notBad (by show ofRC (orc T k f none (pk ix (xs ++ ys)) s2.sto) s2.env = .bad; rw [e2]; rfl)
  exact call_end b2 S2 hp (by rw [hp.length]; exact hl) (g2.imp fun _ _ q => q)
theorem s_callk {O : Orc} {b : Bool} {k f n m : Nat} {r rk : Es} {ks : List Str} {ix : List Nat} {x : Str} {es : List Expr} {kws : List Keyword} {p pos : Pos} (hO : O = orc T k) (tk : Takes X W) (hr : Room k X.A) (hg : Gl X x) (c : KwOk X T G k f x n ks ix) (hdb : (x == ("__debug__" : Str)) = false)
    (hn : (es = [] ∧ n = 0 ∧ r = .nil) ∨ ∃ e q, es = e :: q ∧ PA X (e :: q) (tA T O G W n r) ∧ starEach (e :: q) X.env = (false, eval e X.env) :: starEach q X.env) (hkw : PK X kws (tA T O G W m rk)) (hm : m = ks.length)
    (hall : (backToKw pos (keywordEach kws X.env)).all (·.1.isSome) = true) (hks : (backToKw pos (keywordEach kws X.env)).filterMap (·.1) = ks)
    (hpl : ((backTo pos (starEach es X.env)).any (·.1) || (backToKw pos (keywordEach kws X.env)).any (·.1.isNone)) = false) : PE X (.Call (.Name x p) es kws pos) (tE T O G W b (.callk f r rk ix)) := by
  obtain ⟨fa, fd, ps, hmg, hkp, F, hb, fn, hfn, hnp⟩ := c.ex
  subst hm
  rcases hn with ⟨rfl, rfl, rfl⟩ | ⟨e, q, rfl, h, he⟩
  · refine PE.weak (pe_callKS0 F hr hg hmg hkp hb (fun σ => passAt tk σ) hkw hall hks hdb ((Bool.or_eq_false_iff.mp hpl).2)) fun σ H Q bn q => ?_
    obtain ⟨P, R, s, rfl, _, S, g⟩ := q
    have e : ev T O b (.callk f .nil rk ix) = seq (evs T O rk) fun zs => fun s => ofRC (O f none (pk ix ([] ++ zs)) s.sto) s.env := rfl
    rw [e] at g
    exact kw_end (b := b) hO hfn hnp bn S ⟨Reps.nil, rfl⟩ (g.imp fun _ _ q _ => q)
  · refine PE.weak (pe_callKS F hr hg hmg hkp hb (fun σ => passAt tk σ) h hkw hall hks hdb he hpl) fun σ H Q bn q => ?_
    obtain ⟨P, R, s, rfl, _, S, g⟩ := q
    refine ⟨P, R, s, rfl, bn, S, (Go.bind (m := evs T O r) (f := fun xs => seq (evs T O rk) fun zs => fun s => ofRC (O f none (pk ix (xs ++ zs)) s.sto) s.env) (Za := Zs G n) g).imp fun vs H1 q1 => ?_⟩
    obtain ⟨xs, R1, s1, rfl, st1, b1, S1, z1, g1⟩ := q1
    exact kw_end (b := b) hO hfn hnp b1 S1 z1 (g1.imp fun _ _ q _ => q)
theorem pe_callSD0 {CX : CXT} {k : Nat} {f : Addr} {fd : FuncData} {ps : List Str} {sp : Sp} {E : L2.St → XK} {x : Str} {p pos : Pos} {dvs : List V} {ds : List Value} (F : FnOk X.prog X.w X.K X.mg X.base CX k f fd ps sp) (hr : Room k X.A) (hg : Gl X x) (hm : X.mg x = some (.ref f)) (hk : PySem.W.keepIn X.K (.ref f) = true) (hb : Binds X.K fd ps ds) (hd : Vals dvs ds) (hx : ∀ σ, PassesAt CX X σ (E σ)) (hdb : (x == ("__debug__" : Str)) = false) :
    PE X (.Call (.Name x p) [] [] pos) (fun σ H Q => sp dvs H Q (E σ)) := by
  refine ⟨fun pins s σ H Q I h => wpAny_Call_Name_kw (ld_glob I hg hm ?_ hdb)⟩
  exact PySem.W.callWith_K0 I.kIn hk (run_fnSD (us := []) (vs := []) F hr hb hd (hx σ) I .nil h)
/-- a call without arguments -/
theorem s_callN {O : Orc} {b : Bool} {k f : Nat} {ds : List D} {x : Str} {p pos : Pos} (hO : O = orc T k) (tk : Takes X W) (hr : Room k X.A) (hg : Gl X x) (c : CallOk X T G k f x ds) (hdb : (x == ("__debug__" : Str)) = false) : PE X (.Call (.Name x p) [] [] pos) (tE T O G W b (.call f .nil ds)) := by
  obtain ⟨fa, fd, ps, dvs, vals, hm, hk, F, hb, hv, hd, fn, hfn, hnp⟩ := c.ex
  refine PE.weak (pe_callSD0 F hr hg hm hk hb hv (fun σ => passAt tk σ) hdb) fun σ H Q bn q => ?_
  obtain ⟨P, R, s, rfl, _, S, g⟩ := q
  have e : ev T O b (.call f .nil ds) = fun s => ofRC (O f none ([] ++ ds) s.sto) s.env := rfl
  rw [e] at g
  subst hO
  have hl : ds.length = ps.length := by
    rw [← hnp]
    refine callF_np (k := k) (S := s.sto) hfn fun e => ?_
    rcases orc_plain (T := T) (k := k) (f := f) (ds := ds) (S := s.sto) with e2 | e2
    · exact g.notBad (by show ofRC (orc T k f none ds s.sto) s.env = .bad; rw [e2, e]; rfl)
    · exact g.notBad (by show ofRC (orc T k f none ds s.sto) s.env = .bad; rw [e2]; rfl)
  exact call_end bn S (hd R) (by rw [(hd R).length]; exact hl) (g.imp fun _ _ q _ => q)
end
end Dn

/-! PyIter: what a loop walks. -/
namespace Dn
open PySem L2
/-- the iterator J hands out the items of k, as long as these stay -/
structure ItOk (G : Gm) (R : Rl) (k : Tok) (J : L2.It) : Prop where
  few : k.items.length ≤ sizeLine
  pers : ∃ Pr : Rl → Prop, Pr R ∧ (∀ P R R', Stp P R R' → Pr R → Pr R') ∧ ∀ P R σ s, SR G P R σ s → k.ok s = true → Pr R →
    J.stop k.items.length R.H ∧ ∀ (i : Nat) d, k.items[i]? = some d → J.go i R.H ∧ ∀ x H', J.yld i R.H x H' → ∃ R', R'.H = H' ∧ Stp P R R' ∧ SR G P R' σ s ∧ Rep G R' d x
theorem ItOk.mono {G : Gm} {P : Addr → Prop} {R R' : Rl} {k : Tok} {J : L2.It} (h : ItOk G R k J) (st : Stp P R R') : ItOk G R' k J := by
  obtain ⟨Pr, h1, h2, h3⟩ := h.pers
  exact ⟨h.few, Pr, h2 _ _ _ st h1, h2, h3⟩
def Zi (G : Gm) : Zt Tok L2.It := fun R _ k J => ItOk G R k J
abbrev tIt (T : Tab) (O : Orc) (G : Gm) (W : WX) (it : It) : TI := tM G W (evIt T O it) (Zi G)
section
variable {X : Cx} {T : Tab} {O : Orc} {G : Gm} {W : WX} {tg : Expr}
theorem PI.weak {e : Expr} {t t' : TI} (h : PI X tg e t) (hw : ∀ σ H Q, Bnd H → t' σ H Q → t σ H Q) : PI X tg e t' :=
  ⟨fun pins s σ H Q I q => h.run pins s σ H Q I (hw σ H Q (Bnd.of I) q)⟩
/-- a list or a tuple is walked -/
theorem pi_sq {l : Expr} {tl : TE} (hl : PE X l tl) : PI X tg l (fun σ H R => tl σ H fun x H1 => ∃ a, x = .ref a ∧ (((∃ xs, SqL X.K H1 a xs) ∧ (Bnd H1 → R (Itl X.K a) H1)) ∨ ((∃ xs, SqT X.K H1 a xs) ∧ (Bnd H1 → R (Itt X.K a) H1)))) := by
  refine ⟨fun pins s σ H R I h => ?_⟩
  refine thn (hl.run pins s σ H _ I h) fun v s1 ⟨x, H1, I1, r1, a, e, q1⟩ => ?_
  subst e
  cases r1
  have bb : Bnd H1 := Bnd.of I1
  rcases q1 with ⟨⟨xs, hq⟩, q⟩ | ⟨⟨xs, hq⟩, q⟩
  · obtain ⟨its, rv, p, hz⟩ := I1.list hq
    refine wpAny_pyIter_list p.isList ⟨s1.heap.objs.size, [s1.heap.objs.size], _, _, H1, rfl, I1.kept (t' := s1.toks) fun b o e => Heap.get?_push_of_some _ e, turn_list a _, ⟨_, Heap.get?_push_size _ rfl, rfl, rfl⟩, fun b hb => ?_, q bb⟩
    obtain rfl : b = s1.heap.objs.size := by simpa using hb
    exact I1.fpOk (Nat.le_refl _) (I1.hok.fresh (Nat.le_refl _))
  · obtain ⟨its, rv, p, hz⟩ := I1.tuple hq
    refine wpAny_pyIter_tuple (show s1.heap.IsTuple a its.toArray from p) ⟨s1.heap.objs.size, [s1.heap.objs.size], _, _, H1, rfl, I1.kept (t' := s1.toks) fun b o e => Heap.get?_push_of_some _ e, turn_tuple a _, ⟨_, Heap.get?_push_size _ rfl, rfl, rfl⟩, fun b hb => ?_, q bb⟩
    obtain rfl : b = s1.heap.objs.size := by simpa using hb
    exact I1.fpOk (Nat.le_refl _) (I1.hok.fresh (Nat.le_refl _))
/-- two readings of one list -/
theorem sqL_inj {K : PySem.W.Frag} {H : Hp} {a : Addr} {xs ys : List V} (h : H a = some (.lst xs)) (h' : Rd H a (.lst ys)) : xs = ys := by
  rcases h' with h' | ⟨o, h'⟩
  · rw [h] at h'; cases h'; rfl
  · rw [h] at h'; cases h'
/-- where a list lies that is looked at -/
inductive At (G : Gm) : Tok → Addr → Prop where
  | lst {a : Addr} {ds : List D} : At G ⟨ds, none⟩ a
  | ref {a : Addr} {r : Nat} {ds : List D} : At G ⟨ds, some (.ref r, ds)⟩ a
/-- a list's items, as long as the token holds -/
theorem tok_list {R : Rl} {σ : L2.St} {P : Addr → Prop} {s : St} {u : D} {k : Tok} {x : V} (S : SR G P R σ s) (bn : Bnd R.H) (z : Rep G R u x) (hk : seqTok s u = some k) :
    (∃ a, x = .ref a ∧ (∃ xs, SqL G.K R.H a xs) ∧ k.items.length ≤ sizeLine ∧ ∃ Pr : Rl → Prop, Pr R ∧ (∀ P R R', Stp P R R' → Pr R → Pr R') ∧ ∀ P R σ s, SR G P R σ s → k.ok s = true → Pr R → ∃ xs, Rd R.H a (.lst xs) ∧ Reps G R k.items xs) ∨
    (∃ a, x = .ref a ∧ (∃ xs, SqT G.K R.H a xs) ∧ k.items.length ≤ sizeLine ∧ ∃ Pr : Rl → Prop, Pr R ∧ (∀ P R R', Stp P R R' → Pr R → Pr R') ∧ ∀ P R σ s, SR G P R σ s → k.ok s = true → Pr R → ∃ xs, SqT G.K R.H a xs ∧ Reps G R k.items xs) := by
  unfold seqTok at hk
  cases u with
  | lst ds =>
    simp only [view, Option.some.injEq] at hk
    subst hk
    have z' := z
    unfold Rep at z'
    obtain ⟨a, xs, rfl, h1, h2, h3⟩ := z'
    have hl : ds.length ≤ sizeLine := by rw [← h3.length]; exact bn a xs (.inl h2)
    refine .inl ⟨a, rfl, ⟨xs, .inl h2⟩, hl, fun R => ¬ R.Av a ∧ Rd R.H a (.lst xs) ∧ Reps G R ds xs, ⟨h1, h2, h3⟩, fun P R R' st ⟨q1, q2, q3⟩ => ⟨(st.rd q2 q1).2, (st.rd q2 q1).1, q3.mono st⟩, fun P R σ s _ _ q => ⟨xs, q.2.1, q.2.2⟩⟩
  | tup ds =>
    simp only [view, Option.some.injEq] at hk
    subst hk
    have z' := z
    unfold Rep at z'
    obtain ⟨a, xs, rfl, h2, h3⟩ := z'
    have toT : ∀ {R : Rl}, ((¬ R.Av a ∧ Rd R.H a (.tup xs)) ∨ KT G.K a xs) → SqT G.K R.H a xs := fun h => h.elim (fun q => .inl q.2) .inr
    have hl : ds.length ≤ sizeLine := by
      rw [← h3.length]
      rcases h2 with h2 | ⟨o, its, n, _, _, _, hz, hv⟩
      · exact bn a xs (.inr h2.2)
      · have := hv.length
        simp only [Array.length_toList] at this
        omega
    refine .inr ⟨a, rfl, ⟨xs, toT h2⟩, hl, fun R => ((¬ R.Av a ∧ Rd R.H a (.tup xs)) ∨ KT G.K a xs) ∧ Reps G R ds xs, ⟨h2, h3⟩, fun P R R' st ⟨q1, q3⟩ => ⟨q1.imp (fun q => ⟨(st.rd q.2 q.1).2, (st.rd q.2 q.1).1⟩) id, q3.mono st⟩, fun P R σ s _ _ q => ⟨xs, toT q.1, q.2⟩⟩
  | ref r =>
    cases hv : view s (.ref r) with
    | lst ds =>
      rw [hv] at hk
      simp only [srcOf, Option.some.injEq] at hk
      subst hk
      have z' := z
      unfold Rep at z'
      obtain ⟨a, rfl, h1⟩ := z'
      have rv := S.view (d := .ref r) (x := .ref a) z
      rw [hv] at rv
      obtain ⟨b, xs, e, h2, h3⟩ := rv.lst_inv
      cases e
      have hl : ds.length ≤ sizeLine := by rw [← h3.length]; exact bn a xs (.inl h2)
      refine .inl ⟨a, rfl, ⟨xs, .inl h2⟩, hl, fun R => R.ρ r = some a, h1, fun P R R' st q => st.rho _ _ q, fun P R σ s S ok q => ?_⟩
      have ok' : view s (.ref r) = .lst ds := by simpa [Tok.ok] using ok
      have rv := S.view (d := .ref r) (x := .ref a) (by show Rep G R (.ref r) (.ref a); unfold Rep; exact ⟨a, rfl, q⟩)
      rw [ok'] at rv
      obtain ⟨b, ys, e, h4, h5⟩ := rv.lst_inv
      cases e
      exact ⟨ys, h4, h5⟩
    | tup ds =>
      exfalso
      unfold view at hv
      simp only at hv
      split at hv <;> cases hv
    | _ => rw [hv] at hk; cases hk
  | slt i => unfold Rep at z; exact z.elim
  | _ => cases hk
theorem get_eq {R : Rl} {ds : List D} {xs : List V} (r : Reps G R ds xs) {i : Nat} {d : D} (h : ds[i]? = some d) : ∃ x, xs[i]? = some x ∧ Rep G R d x := r.get h
theorem s_itSeq (hK : X.K = G.K) {x : E} {e : Expr} (h : PE X e (tE T O G W false x)) : PI X tg e (tIt T O G W (.seq x)) := by
  refine PI.weak (pi_sq h) fun σ H Q bn q => ?_
  obtain ⟨P, R, s, rfl, _, S, g⟩ := q
  refine ⟨P, R, s, rfl, bn, S, (Go.bind (m := ev T O false x) (f := fun u => opt fun s => seqTok s u) (Za := Zb G false) g).imp fun v H1 q1 => ?_⟩
  obtain ⟨u, R1, s1, rfl, st1, b1, S1, z1, g1⟩ := q1
  obtain ⟨k, ek, w⟩ := g1.optD
  rcases tok_list S1 b1 z1 ek with ⟨a, e1, ⟨xs, h1⟩, hl, Pr, p1, p2, p3⟩ | ⟨a, e1, ⟨xs, h1⟩, hl, Pr, p1, p2, p3⟩
  · refine ⟨a, e1, .inl ⟨⟨xs, by rw [hK]; exact h1⟩, fun bb => w _ R1 S1.refl bb S1 ⟨hl, Pr, p1, p2, fun P R σ s S ok pr => ?_⟩⟩⟩
    obtain ⟨ys, h2, h3⟩ := p3 P R σ s S ok pr
    refine ⟨⟨ys, .inl h2, by rw [h3.length]; exact Nat.le_refl _⟩, fun i d hd => ?_⟩
    obtain ⟨y, hy, ry⟩ := h3.get hd
    refine ⟨⟨ys, y, .inl h2, hy⟩, fun x' H' hyl => ?_⟩
    obtain ⟨rfl, hall⟩ := hyl
    have := hall ys (.inl h2)
    rw [hy] at this
    cases this
    exact ⟨R, rfl, S.refl, S, ry⟩
  · refine ⟨a, e1, .inr ⟨⟨xs, by rw [hK]; exact h1⟩, fun bb => w _ R1 S1.refl bb S1 ⟨hl, Pr, p1, p2, fun P R σ s S ok pr => ?_⟩⟩⟩
    obtain ⟨ys, h2, h3⟩ := p3 P R σ s S ok pr
    have h2' : SqT X.K R.H a ys := by rw [hK]; exact h2
    refine ⟨⟨ys, h2', by rw [h3.length]; exact Nat.le_refl _⟩, fun i d hd => ?_⟩
    obtain ⟨y, hy, ry⟩ := h3.get hd
    refine ⟨⟨ys, y, h2', hy⟩, fun x' H' hyl => ?_⟩
    obtain ⟨rfl, hall⟩ := hyl
    have := hall ys h2'
    rw [hy] at this
    cases this
    exact ⟨R, rfl, S.refl, S, ry⟩
/-! ### ranges -/
theorem rng_ok {R : Rl} {k : Tok} {lo c : Int} {n : Nat} (hk : k = ⟨rngI lo c n, none⟩) (hn : n ≤ sizeLine) {J : L2.It} (hst : ∀ H, J.stop n H) (hgo : ∀ i H, i < n → J.go i H) (hy : ∀ i H x H', J.yld i H x H' → H' = H ∧ x = .int (lo + (i : Nat) * c)) : ItOk G R k J := by
  subst hk
  have hlen : (rngI lo c n).length = n := by simp [rngI]
  refine ⟨by rw [hlen]; exact hn, fun _ => True, trivial, fun _ _ _ _ _ => trivial, fun P R σ s S _ _ => ⟨by rw [hlen]; exact hst _, fun i d hd => ?_⟩⟩
  have hi : i < n := by
    have := (List.getElem?_eq_some_iff.mp hd).1
    rw [hlen] at this; exact this
  have ed : d = .int (lo + (i : Int) * c) := by
    simp only [rngI, List.getElem?_map, List.getElem?_range hi, Option.map_some, Option.some.injEq] at hd
    exact hd.symm
  refine ⟨hgo i _ hi, fun x H' hyl => ?_⟩
  obtain ⟨rfl, rfl⟩ := hy i _ x H' hyl
  exact ⟨R, rfl, S.refl, S, by rw [ed]; exact Rep.int⟩
theorem rngTok1 {d : D} {k : Tok} (h : rngTok [d] = some k) : ∃ j, d = .int j ∧ -(2 ^ 62) ≤ j ∧ j < 2 ^ 62 ∧ j.toNat ≤ sizeLine ∧ k = ⟨rngI 0 1 j.toNat, none⟩ := by
  unfold rngTok at h
  split at h
  · rename_i j heq
    cases heq
    split at h
    · rename_i hc
      cases h
      simp only [big, Bool.and_eq_true, decide_eq_true_eq] at hc
      have : sizeLine = 16777216 := by decide
      exact ⟨j, rfl, by omega, by omega, by omega, rfl⟩
    · cases h
  · rename_i heq; cases heq
  · rename_i heq; cases heq
  · cases h
theorem rngTok2 {d e : D} {k : Tok} (h : rngTok [d, e] = some k) : ∃ i j, d = .int i ∧ e = .int j ∧ (-(2 ^ 62) ≤ i ∧ i < 2 ^ 62 ∧ -(2 ^ 62) ≤ j ∧ j < 2 ^ 62) ∧ (j - i).toNat ≤ sizeLine ∧ k = ⟨rngI i 1 (j - i).toNat, none⟩ := by
  unfold rngTok at h
  split at h
  · rename_i heq; cases heq
  · rename_i i j heq
    cases heq
    split at h
    · rename_i hc
      cases h
      simp only [big, Bool.and_eq_true, decide_eq_true_eq] at hc
      have : sizeLine = 16777216 := by decide
      exact ⟨i, j, rfl, rfl, by omega, by omega, rfl⟩
    · cases h
  · rename_i heq; cases heq
  · cases h
theorem rngTok3 {d e f : D} {k : Tok} (h : rngTok [d, e, f] = some k) : ∃ i j, d = .int i ∧ e = .int j ∧ f = .int (-1) ∧ (-(2 ^ 62) ≤ i ∧ i < 2 ^ 62 ∧ -(2 ^ 62) ≤ j ∧ j < 2 ^ 62) ∧ (i - j).toNat ≤ sizeLine ∧ k = ⟨rngI i (-1) (i - j).toNat, none⟩ := by
  unfold rngTok at h
  split at h
  · rename_i heq; cases heq
  · rename_i heq; cases heq
  · rename_i i j c heq
    cases heq
    split at h
    · rename_i hc
      cases h
      obtain ⟨rfl, hc⟩ := hc
      simp only [big, Bool.and_eq_true, decide_eq_true_eq] at hc
      have : sizeLine = 16777216 := by decide
      exact ⟨i, j, rfl, rfl, rfl, by omega, by omega, rfl⟩
    · cases h
  · cases h
theorem s_itRng1 {x : E} {e : Expr} {p pos : Pos} (hg : Gl X "range") (hm : X.mg "range" = none) (h : PE X e (tE T O G W true x)) (he : starEach [e] X.env = (false, eval e X.env) :: starEach [] X.env) : PI X tg (.Call (.Name "range" p) [e] [] pos) (tIt T O G W (.rng (.cons x .nil))) := by
  refine PI.weak (pi_range1 hg hm (PA.weak (pa_cons h pa_nil he) (t' := tCons (fun σ H Q => tE T O G W true x σ H fun v H1 => Bnd H1 → Q v H1) tNil) fun σ H Q bn q => tM_imp q fun v H1 k b => k b) (by rw [he]; rfl)) fun σ H Q bn q => ?_
  obtain ⟨P, R, s, rfl, _, S, g⟩ := q
  have g' : Go G W (seq (ev T O true x) fun d => opt fun _ => rngTok [d]) (Zi G) P R σ s Q := by
    have g2 : Go G W (seq (evBs T O (.cons x .nil)) fun xs => opt fun _ => rngTok xs) (Zi G) P R σ s Q := g
    rw [evBs1] at g2
    simp only [seq_assoc, seq_ret] at g2
    exact g2
  refine ⟨P, R, s, rfl, bn, S, (g'.bind (Za := Zb G true)).imp fun v H1 q1 bb => ?_⟩
  obtain ⟨u, R1, s1, rfl, st1, b1, S1, z1, g1⟩ := q1
  obtain ⟨k, ek, w⟩ := g1.optD
  obtain ⟨j, rfl, h1, h2, h3, rfl⟩ := rngTok1 ek
  have ev' : v = .int j := by have h : Rep G R1 (.int j) v := z1; unfold Rep at h; exact h
  refine ⟨j, by rw [ev'], h1, h2, w _ R1 S1.refl b1 S1 (rng_ok rfl h3 (fun _ => Nat.le_refl _) (fun i _ hi => hi) fun i H x H' hy => ?_)⟩
  obtain ⟨e1, e2⟩ := hy
  exact ⟨e1, by rw [e2, Int.mul_one]⟩
theorem s_itRng2 {x y : E} {e e' : Expr} {p pos : Pos} (hg : Gl X "range") (hm : X.mg "range" = none) (h : PE X e (tE T O G W true x)) (h' : PE X e' (tE T O G W true y)) (he : starEach [e, e'] X.env = (false, eval e X.env) :: starEach [e'] X.env) (he' : starEach [e'] X.env = (false, eval e' X.env) :: starEach [] X.env) :
    PI X tg (.Call (.Name "range" p) [e, e'] [] pos) (tIt T O G W (.rng (.cons x (.cons y .nil)))) := by
  refine PI.weak (pi_range2 hg hm (pa_cons h (pa_cons h' pa_nil he') he) (by rw [he, he']; rfl) (by rw [he']; rfl)) fun σ H Q bn q => ?_
  obtain ⟨P, R, s, rfl, _, S, g⟩ := q
  have g' : Go G W (seq (ev T O true x) fun d => seq (ev T O true y) fun e => opt fun _ => rngTok [d, e]) (Zi G) P R σ s Q := by
    have g2 : Go G W (seq (evBs T O (.cons x (.cons y .nil))) fun xs => opt fun _ => rngTok xs) (Zi G) P R σ s Q := g
    rw [evBs2] at g2
    simp only [seq_assoc, seq_ret] at g2
    exact g2
  refine ⟨P, R, s, rfl, bn, S, (g'.bind (Za := Zb G true)).imp fun v H1 q1 => ?_⟩
  obtain ⟨u, R1, s1, rfl, st1, b1, S1, z1, g1⟩ := q1
  refine ⟨P, R1, s1, rfl, b1, S1, (g1.bind (Za := Zb G true)).imp fun v2 H2 q2 => ?_⟩
  obtain ⟨u2, R2, s2, rfl, st2, b2, S2, z2, g2⟩ := q2
  obtain ⟨k, ek, w⟩ := g2.optD
  obtain ⟨i, j, rfl, rfl, h1, h3, rfl⟩ := rngTok2 ek
  have ev1 : v = .int i := by have h : Rep G R1 (.int i) v := z1; unfold Rep at h; exact h
  have ev2 : v2 = .int j := by have h : Rep G R2 (.int j) v2 := z2; unfold Rep at h; exact h
  refine ⟨i, j, by rw [ev1, ev2], h1, w _ R2 S2.refl b2 S2 (rng_ok rfl h3 (fun _ => Nat.le_refl _) (fun i _ hi => hi) fun m H x H' hy => ?_)⟩
  obtain ⟨e1, e2⟩ := hy
  exact ⟨e1, by rw [e2, Int.mul_one]⟩
theorem s_itRng3 {x y z : E} {e e' e2 : Expr} {p pos : Pos} (hg : Gl X "range") (hm : X.mg "range" = none) (h : PE X e (tE T O G W true x)) (h' : PE X e' (tE T O G W true y)) (h2 : PE X e2 (tE T O G W true z))
    (he : starEach [e, e', e2] X.env = (false, eval e X.env) :: starEach [e', e2] X.env) (he' : starEach [e', e2] X.env = (false, eval e' X.env) :: starEach [e2] X.env) (he2 : starEach [e2] X.env = (false, eval e2 X.env) :: starEach [] X.env)
    (hpi : ∀ ta, PA X [e, e', e2] ta → PI X tg (.Call (.Name "range" p) [e, e', e2] [] pos) (iRng3 ta)) :
    PI X tg (.Call (.Name "range" p) [e, e', e2] [] pos) (tIt T O G W (.rng (.cons x (.cons y (.cons z .nil))))) := by
  refine PI.weak (hpi _ (pa_cons h (pa_cons h' (pa_cons h2 pa_nil he2) he') he)) fun σ H Q bn q => ?_
  obtain ⟨P, R, s, rfl, _, S, g⟩ := q
  have g' : Go G W (seq (ev T O true x) fun d => seq (ev T O true y) fun e => seq (ev T O true z) fun f => opt fun _ => rngTok [d, e, f]) (Zi G) P R σ s Q := by
    have g2 : Go G W (seq (evBs T O (.cons x (.cons y (.cons z .nil)))) fun xs => opt fun _ => rngTok xs) (Zi G) P R σ s Q := g
    rw [evBs3] at g2
    simp only [seq_assoc, seq_ret] at g2
    exact g2
  refine ⟨P, R, s, rfl, bn, S, (g'.bind (Za := Zb G true)).imp fun v H1 q1 => ?_⟩
  obtain ⟨u, R1, s1, rfl, st1, b1, S1, z1, g1⟩ := q1
  refine ⟨P, R1, s1, rfl, b1, S1, (g1.bind (Za := Zb G true)).imp fun v2 H2 q2 => ?_⟩
  obtain ⟨u2, R2, s2, rfl, st2, b2, S2, z2, g2⟩ := q2
  refine ⟨P, R2, s2, rfl, b2, S2, (g2.bind (Za := Zb G true)).imp fun v3 H3 q3 => ?_⟩
  obtain ⟨u3, R3, s3, rfl, st3, b3, S3, z3, g3⟩ := q3
  obtain ⟨k, ek, w⟩ := g3.optD
  obtain ⟨i, j, rfl, rfl, rfl, h1, h3, rfl⟩ := rngTok3 ek
  have ev1 : v = .int i := by have h : Rep G R1 (.int i) v := z1; unfold Rep at h; exact h
  have ev2 : v2 = .int j := by have h : Rep G R2 (.int j) v2 := z2; unfold Rep at h; exact h
  have ev3 : v3 = .int (-1) := by have h : Rep G R3 (.int (-1)) v3 := z3; unfold Rep at h; exact h
  refine ⟨i, j, -1, (i - j).toNat, by rw [ev1, ev2, ev3], RgC.neg h1.1 h1.2.1 h1.2.2.1 h1.2.2.2, w _ R3 S3.refl b3 S3 (rng_ok rfl h3 (fun _ => Nat.le_refl _) (fun i _ hi => hi) fun m H x H' hy => hy)⟩
end
end Dn

/-! PyEnum: enumerate over a list or a tuple. -/
namespace Dn
open PySem PySem.Spec PyProof.Rows L2
abbrev tupIt (t : Addr) : Obj := { cls := .type "tuple_iterator", data := .fields #[.ref t, .int 0 0] }
abbrev enumOb (it : Addr) : Obj := { cls := .type "enumerate", data := .fields #[.none, .bool false, .ref it, rawInt 0, .none, .none] }
theorem meets_enumB {v : Value} {o : Obj} {B : Heap → Prop} (b : Begins v o B) :
    Meets (Builtin.«enumerate.__new__» ⟨[.type "enumerate", v], []⟩) (fun _ R s => B s.heap ∧ R (.ok (.ret (.ref (s.heap.push o).objs.size))) { s with heap := (s.heap.push o).push (enumOb s.heap.objs.size) }) :=
  .of_wp fun prog w A R s h => by
    obtain ⟨hp, g, d, tk, os⟩ := s
    obtain ⟨h1, h⟩ := h
    have hsub := sub_enumerate
    have go : ∀ {A' : Around} {E : Value → Shared → Prop} {Q : Value → Shared → Prop}, Q (.ref hp.objs.size) ⟨hp.push o, g, d, tk, os⟩ → wpAny (model prog w) A' (pyIter v) Q E ⟨hp, g, d, tk, os⟩ := fun q => b.iter prog w _ _ ⟨hp, g, d, tk, os⟩ _ h1 q
    wp_walk using go
    refine wpAny_stack_any fun st => wpAny_pure ?_
    split
    · rename_i c _ _ _ _ _
      cases (c == Value.type "enumerate") <;> (wp_walk using go; exact ⟨_, rfl, h⟩)
    · wp_walk using go
      exact ⟨_, rfl, h⟩
theorem call_enumB {prog : Program} {w : World} {A : Around} {E : Value → Shared → Prop} {s : Shared} {v : Value} {o : Obj} {B : Heap → Prop} (b : Begins v o B) (hB : B s.heap) {Q : Value → Shared → Prop}
    (h : ∀ h', IsEnum h' (s.heap.objs.size + 1) s.heap.objs.size 0 .none → h'.get? s.heap.objs.size = some o → h'.objs.size = s.heap.objs.size + 2 →
      (∀ c o, s.heap.get? c = some o → h'.get? c = some o) → Q (.ref (s.heap.objs.size + 1)) { s with heap := h' }) : wpAny (model prog w) A (call (.type "enumerate") [v]) Q E s := by
  refine callType_new F.called_enumerate (by decide) (F.typeCall_enumerate_1 _) (F.newCall_enumerate_1 _) (fun obj => F.args_object_init_2 obj _) F.entry_enumerate_new (meets_enumB b) ⟨hB, ?_⟩
  have hz : (s.heap.push o).objs.size = s.heap.objs.size + 1 := Heap.size_push ..
  show _ ∧ _
  rw [hz]
  have he : IsEnum ((s.heap.push o).push (enumOb s.heap.objs.size)) (s.heap.objs.size + 1) s.heap.objs.size 0 .none := by
    have e := Heap.get?_push_size (s.heap.push o) (o := enumOb s.heap.objs.size) rfl
    rw [hz] at e; exact e
  exact ⟨⟨_, he, rfl⟩, h _ he (Heap.get?_push_of_some _ (Heap.get?_push_size _ b.free)) (by rw [Heap.size_push, hz]) fun c o x => Heap.get?_push_of_some _ (Heap.get?_push_of_some _ x)⟩
/-- the tuple at a, each item in a new pair -/
def IteT (K : PySem.W.Frag) (a : Addr) : L2.It :=
  ⟨fun i H => ∃ (xs : List V) (x : V), SqT K H a xs ∧ xs[i]? = some x, fun i H v H' => ∃ t x, v = .ref t ∧ H t = none ∧ H' = upd H t (.tup [.int (i : Nat), x]) ∧ ∀ xs, SqT K H a xs → xs[i]? = some x, fun i H => ∃ xs : List V, SqT K H a xs ∧ xs.length = i⟩
theorem turn_enumT {P : Program} {w : World} {K : PySem.W.Frag} {elts : List Expr} {kk : Nat} {tpos : Pos} (a e it : Addr) (hai : a ≠ it) (hae : a ≠ e) :
    Turn P w K (.Tuple elts kk tpos) (IteT K a) [e, it] e (fun i h => (∃ old, IsEnum h e it ((i : Nat) : Int) old) ∧ h.IsTupleIter it a i ∧ e ≠ it) where
  mem := by simp
  obj := fun i h st b hb => by
    obtain ⟨⟨old, he⟩, ⟨o, ho, hc, hd⟩, _⟩ := st
    rcases (by simpa using hb : b = e ∨ b = it) with rfl | rfl
    · exact ⟨_, he, fun v q => nomatch q⟩
    · exact ⟨o, ho, fun v q => by rw [hd] at q; cases q⟩
  keep := fun i h h' st k => let ⟨⟨old, he⟩, hi, hne⟩ := st; ⟨⟨old, k e (by simp) _ he⟩, hi.at fun o q => k it (by simp) o q, hne⟩
  item := by
    intro X hP hw hK hc i pins s σ H E I hf st hg
    subst hP hw hK
    obtain ⟨⟨old, he⟩, hit, hne⟩ := st
    obtain ⟨xs, x, hq, hx⟩ := hg
    obtain ⟨its, rv, p, hz⟩ := I.tuple hq
    obtain ⟨u, hu, ru⟩ := rv.get hx
    have hel : e < s.heap.objs.size := Heap.lt_size he
    have hil : it < s.heap.objs.size := by obtain ⟨_, q, _⟩ := hit; exact Heap.lt_size q
    have D := Draws.tuple (prog := X.prog) (w := X.w) (A := X.A.in1) (I.ok.hd hc) it a hai its.toArray
    have hlt : i < its.toArray.size := by
      have := (List.getElem?_eq_some_iff.mp hu).1
      simpa using this
    refine wpAny_pyNext_enum_itemD D he ⟨hit, p⟩ hlt hne (by simp [hne, Ne.symm hae]) fun y h' tk hy ho hit' hT hsz hk => ?_
    have eu : y = u := by
      have h2 : its[i]? = some y := by simpa using hy
      rw [hu] at h2; cases h2; rfl
    subst eu
    refine ⟨_, rfl, wpAny_letOwnedTupleGo_enum (s := { s with heap := h', toks := tk + 1 }) ho fun h'' he' sb => ?_⟩
    have hT2 : h''.get? s.heap.objs.size = some { cls := .type "tuple", data := .seq #[.int i tk, y] } := (sb.2 _ (Nat.ne_of_gt hel)).trans hT
    have new : ObjOk X.prog X.w (upd H s.heap.objs.size (.tup [.int (i : Nat), x])) h'' s.heap.objs.size (.tup [.int (i : Nat), x]) :=
      ⟨by show 2 ≤ sizeLine; decide, [.int i tk, y], .cons ⟨_, rfl⟩ (.cons ru .nil), ⟨_, hT2, rfl, _, rfl⟩⟩
    have I1 : Inv X pins σ (upd H s.heap.objs.size (.tup [.int (i : Nat), x])) { s with heap := h'', toks := tk + 1 } :=
      I.turnedNew (ch := [e, it]) (fun b ob hb q => (sb.2 b (fun z => hb (by simp [z]))).trans (hk b ob (fun z => hb (by simp [z])) (fun z => hb (by simp [z])) q)) hf (Nat.le_refl _) new
    refine ⟨.ref s.heap.objs.size, _, I1, rfl, ⟨_, x, rfl, I.hok.fresh (Nat.le_refl _), rfl, fun ys hy => by rw [I.tuple_inj hy hq]; exact hx⟩, ⟨⟨y, ?_⟩, hit'.1.at fun o q => (sb.2 it (Ne.symm hne)).trans q, hne⟩, fun b hb => ?_⟩
    · rw [show ((i + 1 : Nat) : Int) = (i : Int) + 1 by omega]; exact he'
    · have hb' : b < s.heap.objs.size := by
        rcases (by simpa using hb : b = e ∨ b = it) with z | z
        · rw [z]; exact hel
        · rw [z]; exact hil
      rw [upd_ne (Nat.ne_of_lt hb')]
      exact (hf b hb).1
  done := by
    intro X hP hw hK hc i pins s σ H E I hf st hg
    subst hP hw hK
    obtain ⟨⟨old, he⟩, hit, hne⟩ := st
    obtain ⟨xs, hq, hx⟩ := hg
    obtain ⟨its, rv, p, hz⟩ := I.tuple hq
    obtain ⟨f0, f1, f2, f3, f4, f5⟩ := hf it (by simp)
    have hl := rv.length
    have D := Draws.tuple (prog := X.prog) (w := X.w) (A := X.A.in1) (I.ok.hd hc) it a hai its.toArray
    have ei : i = its.toArray.size := by simp; omega
    exact wpAny_pyNext_enum_endD D he (by rw [← ei]; exact ⟨hit, p⟩) fun h' eb => ⟨rfl, I.turned (t' := s.toks) (fun b o hb q => eb b o hb q) f0 f1 f3 f4 f5⟩
  self := fun A i s Q E st h => let ⟨⟨_, he⟩, _⟩ := st; wpAny_pyIter_enum he h

theorem numbered_len : ∀ (n : Nat) (ds : List D), (numbered n ds).length = ds.length
  | _, [] => rfl
  | n, d :: r => by rw [numbered, List.length_cons, List.length_cons, numbered_len]
theorem numbered_get' : ∀ {ds : List D} {n i : Nat} {d : D}, (numbered n ds)[i]? = some d → ∃ e, ds[i]? = some e ∧ d = .tup [.int ((n + i : Nat) : Int), e]
  | [], _, _, _, h => by simp [numbered] at h
  | e :: r, n, 0, d, h => by
    simp [numbered] at h
    exact ⟨e, rfl, by rw [← h]; rfl⟩
  | e :: r, n, i + 1, d, h => by
    rw [numbered, List.getElem?_cons_succ] at h
    obtain ⟨e', h1, h2⟩ := numbered_get' h
    exact ⟨e', by rw [List.getElem?_cons_succ]; exact h1, by rw [h2]; congr 4; omega⟩
theorem numbered_get {ds : List D} {i : Nat} {d : D} (h : (numbered 0 ds)[i]? = some d) : ∃ e, ds[i]? = some e ∧ d = .tup [.int (i : Int), e] := by
  obtain ⟨e, h1, h2⟩ := numbered_get' h
  exact ⟨e, h1, by rw [h2]; simp⟩
theorem pair_rep {G : Gm} {P : Addr → Prop} {R : Rl} {σ : L2.St} {s : St} {i : Nat} {e : D} {y : V} {t : Addr} (S : SR G P R σ s) (hn : R.H t = none) (r : Rep G R e y) : Rep G { R with H := upd R.H t (.tup [.int (i : Nat), y]) } (.tup [.int (i : Int), e]) (.ref t) :=
  Rep.new_tup S hn (xs := [.int (i : Nat), y]) (.cons Rep.int (.cons r .nil))
section
variable {X : Cx} {T : Tab} {O : Orc} {G : Gm} {W : WX}
theorem pi_enumSq {e : Expr} {tl : TE} {p pos tpos : Pos} {elts : List Expr} {kk : Nat} (hg : Gl X "enumerate") (hm : X.mg "enumerate" = none) (hl : PE X e tl) (hs : starEach [e] X.env = (false, eval e X.env) :: starEach [] X.env) :
    PI X (.Tuple elts kk tpos) (.Call (.Name "enumerate" p) [e] [] pos) (fun σ H R => tCons tl tNil σ H fun vs H1 => ∃ a, vs = [.ref a] ∧ (((∃ xs, SqL X.K H1 a xs) ∧ (Bnd H1 → R (Ite X.K a) H1)) ∨ ((∃ xs, SqT X.K H1 a xs) ∧ (Bnd H1 → R (IteT X.K a) H1)))) := by
  refine ⟨fun pins s σ H R I h => ?_⟩
  refine Call_ (ld_blt I hg hm boot_enumerate (PyProof.Rows.callWith_type1 (thn ((pa_cons hl pa_nil hs).run pos pins s σ H _ I h) fun us s1 ⟨vs, H1, I1, r1, q1⟩ => ?_) hs rfl))
  obtain ⟨a, e2, q1⟩ := q1
  subst e2
  have bb : Bnd H1 := Bnd.of I1
  cases r1 with
  | cons r rr =>
    cases rr
    cases r
    have fp2 : ∀ b, b ∈ [s1.heap.objs.size + 1, s1.heap.objs.size] → FpOk X pins H1 b := fun b hb => by
      have hle : s1.heap.objs.size ≤ b := by
        rcases (by simpa using hb : b = s1.heap.objs.size + 1 ∨ b = s1.heap.objs.size) with z | z <;> omega
      exact I1.fpOk hle (I1.hok.fresh hle)
    rcases q1 with ⟨⟨xs, hq⟩, q⟩ | ⟨⟨xs, hq⟩, q⟩
    · obtain ⟨its, rv, p', hz⟩ := I1.list hq
      refine call_enumerate_list p'.isList fun h' he hit hsz hk => wpAny_pyIter_enum he ?_
      exact ⟨s1.heap.objs.size + 1, [s1.heap.objs.size + 1, s1.heap.objs.size], _, _, H1, rfl, I1.kept (t' := s1.toks) hk, turn_enum a (s1.heap.objs.size + 1) s1.heap.objs.size, ⟨⟨.none, he⟩, hit, Nat.succ_ne_self _⟩, fp2, q bb⟩
    · obtain ⟨its, rv, p', hz⟩ := I1.tuple hq
      obtain ⟨o, ho, _⟩ := id p'
      have ha := Heap.lt_size ho
      refine call_enumB (begins_tuple a its.toArray) p' fun h' he hit hsz hk => wpAny_pyIter_enum he ?_
      exact ⟨s1.heap.objs.size + 1, [s1.heap.objs.size + 1, s1.heap.objs.size], _, _, H1, rfl, I1.kept (t' := s1.toks) hk, turn_enumT a (s1.heap.objs.size + 1) s1.heap.objs.size (Nat.ne_of_lt ha) (Nat.ne_of_lt (Nat.lt_succ_of_lt ha)), ⟨⟨.none, he⟩, ⟨_, hit, rfl, rfl⟩, Nat.succ_ne_self _⟩, fp2, q bb⟩
theorem s_enum {e : Expr} {x : E} {p pos tp : Pos} {elts : List Expr} {kk : Nat} (hK : X.K = G.K) (hg : Gl X "enumerate") (hm : X.mg "enumerate" = none) (h : PE X e (tE T O G W false x)) (hs : starEach [e] X.env = (false, eval e X.env) :: starEach [] X.env) :
    PI X (.Tuple elts kk tp) (.Call (.Name "enumerate" p) [e] [] pos) (tIt T O G W (.enum x)) := by
  refine PI.weak (pi_enumSq hg hm h hs) fun σ H Q bn q => ?_
  obtain ⟨P, R, s, rfl, _, S, g⟩ := q
  have g0 : Go G W (seq (ev T O false x) fun u => opt fun s => (seqTok s u).map fun k => ⟨numbered 0 k.items, k.src⟩) (Zi G) P R σ s Q := g
  refine ⟨P, R, s, rfl, bn, S, (g0.bind (Za := Zb G false)).imp fun v H1 q1 => ?_⟩
  obtain ⟨u, R1, s1, rfl, st1, b1, S1, z1, g1⟩ := q1
  obtain ⟨k', ek', w⟩ := g1.optD
  obtain ⟨k, ek, rfl⟩ := Option.map_eq_some_iff.mp ek'
  have ok1 : ∀ {s : St}, Tok.ok ⟨numbered 0 k.items, k.src⟩ s = true → k.ok s = true := fun h => h
  rcases tok_list S1 b1 z1 ek with ⟨a, e1, ⟨xs, h1⟩, hl, Pr, p1, p2, p3⟩ | ⟨a, e1, ⟨xs, h1⟩, hl, Pr, p1, p2, p3⟩
  · refine ⟨a, by rw [e1], .inl ⟨⟨xs, by rw [hK]; exact h1⟩, fun bb => w _ R1 S1.refl bb S1 ⟨by rw [numbered_len]; exact hl, Pr, p1, p2, fun P R σ s S ok pr => ?_⟩⟩⟩
    obtain ⟨ys, h2, h3⟩ := p3 P R σ s S (ok1 ok) pr
    refine ⟨⟨ys, .inl h2, by rw [h3.length, numbered_len]; exact Nat.le_refl _⟩, fun i d hd => ?_⟩
    obtain ⟨d0, hd0, rfl⟩ := numbered_get hd
    obtain ⟨y, hy, ry⟩ := h3.get hd0
    refine ⟨⟨ys, y, .inl h2, hy⟩, fun x' H' hyl => ?_⟩
    obtain ⟨t, y', rfl, hn, rfl, hall⟩ := hyl
    have e2 := hall ys (.inl h2)
    rw [hy] at e2
    cases e2
    exact ⟨{ R with H := upd R.H t _ }, rfl, S.st.stepLaid hn, S.laid hn, pair_rep S hn ry⟩
  · refine ⟨a, by rw [e1], .inr ⟨⟨xs, by rw [hK]; exact h1⟩, fun bb => w _ R1 S1.refl bb S1 ⟨by rw [numbered_len]; exact hl, Pr, p1, p2, fun P R σ s S ok pr => ?_⟩⟩⟩
    obtain ⟨ys, h2, h3⟩ := p3 P R σ s S (ok1 ok) pr
    have h2' : SqT X.K R.H a ys := by rw [hK]; exact h2
    refine ⟨⟨ys, h2', by rw [h3.length, numbered_len]⟩, fun i d hd => ?_⟩
    obtain ⟨d0, hd0, rfl⟩ := numbered_get hd
    obtain ⟨y, hy, ry⟩ := h3.get hd0
    refine ⟨⟨ys, y, h2', hy⟩, fun x' H' hyl => ?_⟩
    obtain ⟨t, y', rfl, hn, rfl, hall⟩ := hyl
    have e2 := hall ys h2'
    rw [hy] at e2
    cases e2
    exact ⟨{ R with H := upd R.H t _ }, rfl, S.st.stepLaid hn, S.laid hn, pair_rep S hn ry⟩
end
end Dn

/-! PyComp: targets, comprehensions. -/
namespace Dn
open PySem L2
/-- the slots that a target stores -/
def Tg.nms : Tg → List Nat
  | .nm i => [i]
  | .tup ts => nmss ts
  | .sub _ _ => []
  | .fld _ _ => []
where nmss : Tgs → List Nat
  | .nil => []
  | .cons t r => t.nms ++ nmss r
def Same' (vs : List Nat) (σ σ' : L2.St) : Prop := σ'.length = σ.length ∧ ∀ i, i ∉ vs → σ'[i]? = σ[i]?
theorem Same'.refl (vs : List Nat) (σ : L2.St) : Same' vs σ σ := ⟨rfl, fun _ _ => rfl⟩
theorem Same'.trans {vs ws : List Nat} {a b c : L2.St} (h : Same' vs a b) (k : Same' ws b c) : Same' (vs ++ ws) a c :=
  ⟨k.1.trans h.1, fun i hi => (k.2 i fun z => hi (List.mem_append_right _ z)).trans (h.2 i fun z => hi (List.mem_append_left _ z))⟩
theorem Same'.sub {vs ws : List Nat} {a b : L2.St} (h : Same' vs a b) (k : ∀ i ∈ vs, i ∈ ws) : Same' ws a b := ⟨h.1, fun i hi => h.2 i fun z => hi (k i z)⟩
/-- a target's reading -/
def gT (T : Tab) (O : Orc) (G : Gm) (W : WX) (t : Tg) : TG := fun v σ H Q => ∃ P R s d, R.H = H ∧ SR G P R σ s ∧ Rep G R d v ∧
  wpR (asg T O t d s) (fun _ s' => ∀ σ' R', Stp P R R' → Bnd R'.H → SR G P R' σ' s' → Same' t.nms σ σ' → Q σ' R'.H) (exq G W P R)
def gTs (T : Tab) (O : Orc) (G : Gm) (W : WX) (ts : Tgs) : TGs := fun vs σ H Q => ∃ P R s ds, R.H = H ∧ SR G P R σ s ∧ Reps G R ds vs ∧
  wpR (asgs T O ts ds s) (fun _ s' => ∀ σ' R', Stp P R R' → Bnd R'.H → SR G P R' σ' s' → Same' (Tg.nms.nmss ts) σ σ' → Q σ' R'.H) (exq G W P R)
section
variable {X : Cx} {T : Tab} {O : Orc} {G : Gm} {W : WX} {P : Addr → Prop} {R R' : Rl} {σ : L2.St} {s : St}
theorem PG.weak {e : Expr} {t t' : TG} (h : PG X e t) (hw : ∀ v σ H Q, Bnd H → t' v σ H Q → t v σ H (fun σ' H' => Bnd H' → Q σ' H')) : PG X e t' :=
  ⟨fun pins s σ H v u Q I r q => thn (h.run pins s σ H v u _ I r (hw v σ H Q (Bnd.of I) q)) fun _ _ ⟨σ', H', I', q'⟩ => ⟨σ', H', I', q' (Bnd.of I')⟩⟩
theorem PGs.weak {es : List Expr} {t t' : TGs} (h : PGs X es t) (hw : ∀ v σ H Q, Bnd H → t' v σ H Q → t v σ H (fun σ' H' => Bnd H' → Q σ' H')) : PGs X es t' :=
  ⟨fun pins s σ H v u Q I r q => thn (h.run pins s σ H v u _ I r (hw v σ H Q (Bnd.of I) q)) fun _ _ ⟨σ', H', I', q'⟩ => ⟨σ', H', I', q' (Bnd.of I')⟩⟩
/-- a name is stored -/
theorem SR.store (S : SR G P R σ s) {i : Nat} {d : D} {v : V} (hi : i < s.env.length) (r : Rep G R d v) : SR G P R (σ.set i (some v)) (s.put i (.val d)) := by
  have hσ : i < σ.length := by rw [← S.len]; exact hi
  refine ⟨S.st, by show (s.env.set i _).length = (σ.set i _).length; rw [List.length_set, List.length_set]; exact S.len, fun j sl e => ?_, fun j k a h1 h2 => ?_⟩
  · have e' : (s.env.set i (.val d))[j]? = some sl := e
    by_cases hj : i = j
    · subst hj
      rw [List.getElem?_set_self hi] at e'
      cases e'
      rw [List.getElem?_set_self hσ]
      exact ⟨v, rfl, r⟩
    · rw [List.getElem?_set_ne hj] at e'
      rw [List.getElem?_set_ne hj]
      exact S.slot j sl e'
  · have back : ∀ m, Owns (s.env.set i (.val d)) (σ.set i (some v)) m a → Owns s.env σ m a := fun m ⟨⟨sm, q, hm⟩, z⟩ => by
      by_cases hmi : i = m
      · subst hmi
        rw [List.getElem?_set_self hi] at q
        cases q; cases hm
      · rw [List.getElem?_set_ne hmi] at q z; exact ⟨⟨sm, q, hm⟩, z⟩
    exact S.own j k a (back j h1) (back k h2)
theorem s_nm {i : Nat} {x : Str} {pos : Pos} (hN : X.N.Nodup) (hi : X.N[i]? = some x) (hx : Loc X.env.scope x) (hf : X.fn x = true ∨ X.env.scope.names.lookup x = some .local) : PG X (.Name x pos) (gT T O G W (.nm i)) := by
  refine PG.weak (pg_name hN hi hx hf) fun v σ H Q bn q => ?_
  obtain ⟨P, R, s, d, rfl, S, r, g⟩ := q
  have g' : wpR (if i < s.env.length then Rs.ok () (s.put i (.val d)) else .bad) (fun _ s' => ∀ σ' R', Stp P R R' → Bnd R'.H → SR G P R' σ' s' → Same' [i] σ σ' → Q σ' R'.H) (exq G W P R) := g
  split at g'
  · rename_i hlt
    exact fun _ => g' _ R S.refl bn (S.store hlt r) ⟨by rw [List.length_set], fun j hj => by rw [List.getElem?_set_ne (fun z => hj (by simp [z]))]⟩
  · exact g'.elim
theorem s_gnil : PGs X [] (gTs T O G W .nil) := by
  refine PGs.weak pgs_nil fun vs σ H Q bn q => ?_
  obtain ⟨P, R, s, ds, rfl, S, r, g⟩ := q
  cases ds with
  | nil =>
    unfold Reps at r
    have g' : ∀ σ' R', Stp P R R' → Bnd R'.H → SR G P R' σ' s → Same' [] σ σ' → Q σ' R'.H := g
    exact ⟨r, fun _ => g' σ R S.refl bn S (Same'.refl _ _)⟩
  | cons d r => exact (show False from g).elim
theorem s_gcons {t : Tg} {ts : Tgs} {e : Expr} {es : List Expr} (h1 : PG X e (gT T O G W t)) (h2 : PGs X es (gTs T O G W ts)) (hs : (assignEach (e :: es) X.env).map (·.2) = assign e X.env :: (assignEach es X.env).map (·.2)) : PGs X (e :: es) (gTs T O G W (.cons t ts)) := by
  refine PGs.weak (pgs_cons h1 h2 hs) fun vs σ H Q bn q => ?_
  obtain ⟨P, R, s, ds, rfl, S, r, g⟩ := q
  cases ds with
  | nil => exact (show False from g).elim
  | cons d ds =>
    unfold Reps at r
    obtain ⟨v, vr, e1, r1, r2⟩ := r
    refine ⟨v, vr, e1, P, R, s, d, rfl, S, r1, ?_⟩
    have g' : wpR ((seq (asg T O t d) fun _ => asgs T O ts ds) s) (fun _ s' => ∀ σ' R', Stp P R R' → Bnd R'.H → SR G P R' σ' s' → Same' (t.nms ++ Tg.nms.nmss ts) σ σ' → Q σ' R'.H) (exq G W P R) := g
    refine wpR.imp (wpR.bind g') (fun _ s1 k σ1 R1 st1 b1 S1 sm1 => ?_) fun _ _ _ k => k
    refine ⟨P, R1, s1, ds, rfl, S1, r2.mono st1, wpR.imp k (fun _ s2 k2 σ2 R2 st2 b2 S2 sm2 _ => ?_) fun _ _ _ k => k.step st1⟩
    exact k2 σ2 R2 (st1.trans st2) b2 S2 (sm1.trans sm2)
theorem s_gtup (hK : X.K = G.K) {ts : Tgs} {es : List Expr} {kk : Nat} {pos : Pos} (hc : X.calm = true) (h : PGs X es (gTs T O G W ts)) (hst : (assignEach es X.env).findIdx? (·.1) = none) (hn : (assignEach es X.env).length = ts.len) : PG X (.Tuple es kk pos) (gT T O G W (.tup ts)) := by
  refine PG.weak (pg_tup hc h hn hst) fun v σ H Q bn q => ?_
  obtain ⟨P, R, s, d, rfl, S, r, g⟩ := q
  cases d with
  | tup ds =>
    obtain ⟨a, xs, rfl, h1, h2⟩ := RepW.tup_inv r.w
    have g' : wpR ((if ds.length = ts.len then asgs T O ts ds else bad) s) (fun _ s' => ∀ σ' R', Stp P R R' → Bnd R'.H → SR G P R' σ' s' → Same' (Tg.nms.nmss ts) σ σ' → Q σ' R'.H) (exq G W P R) := g
    split at g'
    · rename_i hl
      exact ⟨a, xs, rfl, by rw [hK]; exact h1, by rw [h2.length]; exact hl, P, R, s, ds, rfl, S, h2, wpR.imp g' (fun _ s2 k2 σ2 R2 st2 b2 S2 sm2 _ => k2 σ2 R2 st2 b2 S2 sm2) fun _ _ _ k => k⟩
    · exact g'.elim
  | _ => exact (show False from g).elim
end
end Dn

/-! PyComp2: list comprehensions. -/
namespace Dn
open PySem L2
/-- no error is wanted -/
def W0 : WX := fun _ _ _ _ => False
abbrev tTs (T : Tab) (O : Orc) (G : Gm) (cs : Es) : TT := tM G W0 (evTs T O cs) (fun _ _ (a b : Bool) => a = b)
section
variable {X : Cx} {T : Tab} {O : Orc} {G : Gm} {W : WX} {P : Addr → Prop} {R R' : Rl} {σ : L2.St} {s : St}
theorem PTs.weak {e : List Expr} {t t' : TT} (h : PTs X e t) (hw : ∀ σ H Q, Bnd H → t' σ H Q → t σ H (fun v H' => Bnd H' → Q v H')) : PTs X e t' :=
  ⟨fun pins s σ H Q I q => thn (h.run pins s σ H _ I (hw σ H Q (Bnd.of I) q)) fun _ _ ⟨H', I', q'⟩ => ⟨H', I', q' (Bnd.of I')⟩⟩
theorem s_ts0 : PTs X [] (tTs T O G .nil) := PTs.weak pts_nil fun σ H Q bn q => by
  obtain ⟨P, R, s, rfl, _, S, g⟩ := q
  exact fun _ => Go.retD (a := true) g bn S rfl
theorem s_ts1 {x : E} {e : Expr} (h : PT X e (tT T O G W0 x)) : PTs X [e] (tTs T O G (.cons x .nil)) := PTs.weak (pts_one h) fun σ H Q bn q => by
  obtain ⟨P, R, s, rfl, _, S, g⟩ := q
  refine tT_imp (tT_of (x := x) (f := fun u => match u with | .bl c => ret c | _ => bad) bn S g fun u s hu => ?_) fun k H1 q => ?_
  · cases u <;> first | rfl | exact (hu _ rfl).elim
  · obtain ⟨R', s', rfl, st, b1, S1, g1⟩ := q
    exact fun _ => Go.retD (a := k) g1 b1 S1 rfl
/-! ### a place that is kept for the list that grows -/
/-- D is nobody's -/
structure Fre (P : Addr → Prop) (R : Rl) (env : List Slot) (σ : L2.St) (D : Addr) : Prop where
  av : R.Av D
  np : ¬ P D
  nr : ∀ r, R.ρ r ≠ some D
  no : ∀ i, ¬ Owns env σ i D
def Pd (P : Addr → Prop) (D : Addr) : Addr → Prop := fun a => P a ∨ a = D
theorem SlotOk.conv {P P' : Addr → Prop} {x : Option (Option V)} {sl : Slot} (h : SlotOk G P R x sl) (hp : ∀ a, x = some (some (.ref a)) → sl.isOwn = true → ¬ P a → ¬ P' a) : SlotOk G P' R x sl := by
  cases sl with
  | emp => trivial
  | val d => exact h
  | own ds => obtain ⟨a, xs, h1, h2, h3, h4, h5, h6⟩ := h; exact ⟨a, xs, h1, h2, h3, h4, hp a h1 rfl h5, h6⟩
  | owni c fs => obtain ⟨a, dx, xs, h1, h2, h0, h3, h4, h5, h6⟩ := h; exact ⟨a, dx, xs, h1, h2, h0, h3, h4, hp a h1 rfl h5, h6⟩
theorem SR.guard (S : SR G P R σ s) {D : Addr} (f : Fre P R s.env σ D) : SR G (Pd P D) R σ s := by
  refine ⟨⟨S.st.sto, fun r a h => ?_, S.st.inj, S.st.av, fun a p => p.elim (S.st.pr a) fun e => by rw [e]; exact f.av⟩, S.len, fun i sl e => (S.slot i sl e).conv fun a hx ho hn => ?_, S.own⟩
  · obtain ⟨h1, h2, h3⟩ := S.st.dom r a h
    exact ⟨h1, h2, fun p => p.elim h3 fun e => f.nr r (by rw [h, e])⟩
  · exact fun p => p.elim hn fun ea => f.no i ⟨⟨sl, e, ho⟩, by rw [hx, ea]⟩
theorem SR.unguard {D : Addr} (S : SR G (Pd P D) R σ s) (hnp : ¬ P D) : SR G P R σ s ∧ Fre P R s.env σ D := by
  refine ⟨⟨⟨S.st.sto, fun r a h => ?_, S.st.inj, S.st.av, fun a p => S.st.pr a (.inl p)⟩, S.len, fun i sl e => (S.slot i sl e).conv fun a hx ho hn p => hn (.inl p), S.own⟩, S.st.pr D (.inr rfl), hnp, fun r h => (S.st.dom r D h).2.2 (.inr rfl), fun i h => ?_⟩
  · obtain ⟨h1, h2, h3⟩ := S.st.dom r a h
    exact ⟨h1, h2, fun p => h3 (.inl p)⟩
  · exact (own_at S h).2.1 (.inr rfl)
/-- what nobody holds turns into o' -/
theorem SR.chgFree (S : SR G P R σ s) {D : Addr} (f : Fre P R s.env σ D) (o' : HO) : Stp P R { R with H := upd R.H D o' } ∧ SR G P { R with H := upd R.H D o' } σ s := by
  have st : Stp P R { R with H := upd R.H D o' } := Stp.chg f.av f.np S.st.pr
  refine ⟨st, ⟨⟨fun r o e => ?_, S.st.dom, S.st.inj, S.st.avChg, S.st.pr⟩, S.len, fun i sl e => (S.slot i sl e).chg st fun ho hx => f.no i ⟨⟨sl, e, ho⟩, hx⟩, S.own⟩⟩
  obtain ⟨a, e1, h⟩ := S.st.sto r o e
  refine ⟨a, e1, h.mono st ?_⟩
  show upd R.H D o' a = R.H a
  rw [upd_ne]; rintro rfl; exact f.nr r e1
/-- .. is taken out of what is tracked -/
theorem SR.drop (S : SR G P R σ s) {D : Addr} (f : Fre P R s.env σ D) :
    ∃ R1 : Rl, R1.H = (fun b => if b = D then none else R.H b) ∧ Stp P R R1 ∧ SR G P R1 σ s ∧ R1.H D = none := by
  have st : Stp P R ⟨R.ρ, fun b => R.Av b ∧ b ≠ D, fun b => if b = D then none else R.H b⟩ := by
    refine ⟨fun _ _ h => h, fun a o h n => ⟨?_, fun z => n z.1⟩, fun a o p h => ⟨?_, S.st.pr a p, ?_⟩⟩
    · show (if a = D then none else R.H a) = some o
      rw [if_neg (by rintro rfl; exact n f.av)]; exact h
    · show (if a = D then none else R.H a) = some o
      rw [if_neg (by rintro rfl; exact f.np p)]; exact h
    · rintro rfl; exact f.np p
  refine ⟨_, rfl, st, ⟨⟨fun r o e => ?_, fun r a h => ?_, S.st.inj, fun a h => ?_, fun a p => ⟨S.st.pr a p, by rintro rfl; exact f.np p⟩⟩, S.len, fun i sl e => ?_, S.own⟩, if_pos rfl⟩
  · obtain ⟨a, e1, h⟩ := S.st.sto r o e
    refine ⟨a, e1, h.mono st ?_⟩
    show (if a = D then none else R.H a) = R.H a
    rw [if_neg]; rintro rfl; exact f.nr r e1
  · obtain ⟨h1, h2, h3⟩ := S.st.dom r a h
    exact ⟨h1, ⟨h2, by rintro rfl; exact f.nr r h⟩, h3⟩
  · show (if a = D then none else R.H a) ≠ none
    rw [if_neg h.2]; exact S.st.av a h.1
  · have h := S.slot i sl e
    cases sl with
    | emp => trivial
    | val d => obtain ⟨v, e1, r⟩ := h; exact ⟨v, e1, r.mono st⟩
    | own ds =>
      obtain ⟨b, ys, e1, h1, h2, h3, h4, h5⟩ := h
      have nb : b ≠ D := by rintro rfl; exact f.no i ⟨⟨_, e, rfl⟩, e1⟩
      exact ⟨b, ys, e1, (by show (if b = D then none else R.H b) = _; rw [if_neg nb]; exact h1), h2.mono st, ⟨h3, nb⟩, h4, h5⟩
    | owni c fs =>
      obtain ⟨b, dx, ys, e1, h1, h0, h2, h3, h4, h5⟩ := h
      have nb : b ≠ D := by rintro rfl; exact f.no i ⟨⟨_, e, rfl⟩, e1⟩
      exact ⟨b, dx, ys, e1, (by show (if b = D then none else R.H b) = _; rw [if_neg nb]; exact h1), h0, h2.mono st, ⟨h3, nb⟩, h4, h5⟩
/-- .. is laid -/
theorem SR.lay (S : SR G P R σ s) {D : Addr} (hn : R.H D = none) (o : HO) : ∃ R1 : Rl, R1.H = upd R.H D o ∧ Stp P R R1 ∧ SR G P R1 σ s ∧ Fre P R1 s.env σ D := by
  have S1 := S.laid (o := o) hn
  have st1 := S.st.stepLaid (o := o) hn
  have npD : ¬ P D := fun p => S.st.av D (S.st.pr D p) hn
  have nrD : ∀ r, R.ρ r ≠ some D := fun r h => S.st.av D (S.st.dom r D h).2.1 hn
  have noD : ∀ i, ¬ Owns s.env σ i D := fun i h => by
    obtain ⟨_, _, _, o, e⟩ := own_at S h
    rw [hn] at e; cases e
  have st : Stp P R ⟨R.ρ, fun b => R.Av b ∨ b = D, upd R.H D o⟩ := ⟨fun _ _ h => h, fun a u h n => ⟨(st1.keep a u h n).1, fun z => z.elim n fun e => ne_of_none h hn e⟩, fun a u p h => ⟨(st1.prot a u p h).1, .inl (S.st.pr a p)⟩⟩
  have mo : ∀ {d : Dn.D} {x : V}, Rep G R d x → Rep G ⟨R.ρ, fun b => R.Av b ∨ b = D, upd R.H D o⟩ d x := fun h => h.mono st
  refine ⟨_, rfl, st, ⟨⟨fun r ob e => ?_, fun r a h => ?_, S.st.inj, fun a h => ?_, fun a p => .inl (S.st.pr a p)⟩, S.len, fun i sl e => ?_, S.own⟩, .inr rfl, npD, nrD, noD⟩
  · obtain ⟨a, e1, h⟩ := S.st.sto r ob e
    refine ⟨a, e1, h.mono st ?_⟩
    show upd R.H D o a = R.H a
    rw [upd_ne]; rintro rfl; exact nrD r e1
  · obtain ⟨h1, h2, h3⟩ := S.st.dom r a h
    exact ⟨h1, .inl h2, h3⟩
  · show upd R.H D o a ≠ none
    by_cases q : a = D
    · rw [q, upd_same]; exact fun z => nomatch z
    · rw [upd_ne q]; exact S.st.av a (h.resolve_right q)
  · have h := S.slot i sl e
    cases sl with
    | emp => trivial
    | val d => obtain ⟨v, e1, r⟩ := h; exact ⟨v, e1, mo r⟩
    | own ds =>
      obtain ⟨b, ys, e1, h1, h2, h3, h4⟩ := h
      exact ⟨b, ys, e1, (by show upd R.H D o b = _; rw [upd_ne (ne_of_none h1 hn)]; exact h1), h2.mono st, .inl h3, h4⟩
    | owni c fs =>
      obtain ⟨b, dx, ys, e1, h1, h0, h2, h3, h4⟩ := h
      exact ⟨b, dx, ys, e1, (by show upd R.H D o b = _; rw [upd_ne (ne_of_none h1 hn)]; exact h1), h0, h2.mono st, .inl h3, h4⟩

/-! ### the block's own names -/
theorem wipeE_get (env : List Slot) : ∀ (vs : List Nat) (i : Nat), (wipeE env vs)[i]? = if i ∈ vs ∧ i < env.length then some .emp else env[i]?
  | [], i => by simp [wipeE]
  | v :: vs, i => by
    have hl : (wipeE env vs).length = env.length := by
      clear wipeE_get
      induction vs with
      | nil => rfl
      | cons a r ih => simp [wipeE, ih]
    show ((wipeE env vs).set v .emp)[i]? = _
    by_cases hv : v = i
    · subst hv
      by_cases hlt : v < env.length
      · rw [List.getElem?_set_self (by rw [hl]; exact hlt), if_pos ⟨by simp, hlt⟩]
      · rw [List.getElem?_eq_none (by simp [hl]; omega), if_neg (fun z => hlt z.2), List.getElem?_eq_none (by omega)]
    · rw [List.getElem?_set_ne hv, wipeE_get env vs i]
      have : (i ∈ v :: vs ∧ i < env.length) ↔ (i ∈ vs ∧ i < env.length) := by
        simp only [List.mem_cons]
        exact ⟨fun ⟨a, b⟩ => ⟨a.resolve_left fun e => hv e.symm, b⟩, fun ⟨a, b⟩ => ⟨.inr a, b⟩⟩
      simp only [this]
theorem wipeE_len (env : List Slot) : ∀ vs : List Nat, (wipeE env vs).length = env.length
  | [] => rfl
  | v :: vs => by simp [wipeE, wipeE_len env vs]
theorem wipe_get (σ : L2.St) : ∀ (vs : List Nat) (i : Nat), (wipe σ vs)[i]? = if i ∈ vs ∧ i < σ.length then some none else σ[i]?
  | [], i => by simp [wipe]
  | v :: vs, i => by
    show ((wipe σ vs).set v none)[i]? = _
    by_cases hv : v = i
    · subst hv
      by_cases hlt : v < σ.length
      · rw [List.getElem?_set_self (by rw [wipe_length]; exact hlt), if_pos ⟨by simp, hlt⟩]
      · rw [List.getElem?_eq_none (by simp [wipe_length]; omega), if_neg (fun z => hlt z.2), List.getElem?_eq_none (by omega)]
    · rw [List.getElem?_set_ne hv, wipe_get σ vs i]
      have : (i ∈ v :: vs ∧ i < σ.length) ↔ (i ∈ vs ∧ i < σ.length) := by
        simp only [List.mem_cons]
        exact ⟨fun ⟨a, b⟩ => ⟨a.resolve_left fun e => hv e.symm, b⟩, fun ⟨a, b⟩ => ⟨.inr a, b⟩⟩
      simp only [this]
theorem wipe_same {vs : List Nat} {σ σ' : L2.St} (h : Same' vs (wipe σ vs) σ') : wipe σ' vs = wipe σ vs := by
  have hl : σ'.length = σ.length := by rw [h.1, wipe_length]
  refine List.ext_getElem? fun i => ?_
  rw [wipe_get, wipe_get, hl]
  by_cases hi : i ∈ vs ∧ i < σ.length
  · rw [if_pos hi, if_pos hi]
  · rw [if_neg hi, if_neg hi]
    by_cases hv : i ∈ vs
    · have : ¬ i < σ.length := fun z => hi ⟨hv, z⟩
      rw [List.getElem?_eq_none (by omega), List.getElem?_eq_none (by omega)]
    · rw [h.2 i hv, wipe_get, if_neg (fun z => hv z.1)]
theorem SR.wiped (S : SR G P R σ s) (vs : List Nat) : SR G P R (wipe σ vs) { s with env := wipeE s.env vs } := by
  refine ⟨S.st, by show (wipeE s.env vs).length = _; rw [wipeE_len, wipe_length]; exact S.len, fun i sl e => ?_, fun i j a h1 h2 => ?_⟩
  · have e' : (wipeE s.env vs)[i]? = some sl := e
    rw [wipeE_get] at e'
    split at e'
    · cases e'; trivial
    · rename_i hn
      rw [wipe_get, if_neg (by rw [← S.len]; exact hn)]
      exact S.slot i sl e'
  · have back : ∀ m, Owns (wipeE s.env vs) (wipe σ vs) m a → Owns s.env σ m a := fun m ⟨⟨sm, q, hm⟩, z⟩ => by
      rw [wipeE_get] at q
      split at q
      · cases q; cases hm
      · rename_i hn
        rw [wipe_get, if_neg (by rw [← S.len]; exact hn)] at z
        exact ⟨⟨sm, q, hm⟩, z⟩
    exact S.own i j a (back i h1) (back j h2)
theorem restore_len (env now : List Slot) : ∀ vs : List Nat, (restore env now vs).length = now.length
  | [] => rfl
  | v :: vs => by simp [restore, restore_len env now vs]
theorem restore_get (env now : List Slot) : ∀ (vs : List Nat) (i : Nat), (restore env now vs)[i]? = if i ∈ vs ∧ i < now.length then some (env[i]?.getD .emp) else now[i]?
  | [], i => by simp [restore]
  | v :: vs, i => by
    show ((restore env now vs).set v (env[v]?.getD .emp))[i]? = _
    by_cases hv : v = i
    · subst hv
      by_cases hlt : v < now.length
      · rw [List.getElem?_set_self (by rw [restore_len]; exact hlt), if_pos ⟨by simp, hlt⟩]
      · rw [List.getElem?_eq_none (by simp [restore_len]; omega), if_neg (fun z => hlt z.2), List.getElem?_eq_none (by omega)]
    · rw [List.getElem?_set_ne hv, restore_get env now vs i]
      have : (i ∈ v :: vs ∧ i < now.length) ↔ (i ∈ vs ∧ i < now.length) := by
        simp only [List.mem_cons]
        exact ⟨fun ⟨a, b⟩ => ⟨a.resolve_left fun e => hv e.symm, b⟩, fun ⟨a, b⟩ => ⟨.inr a, b⟩⟩
      simp only [this]
theorem Same'.wiped (vs : List Nat) (σ : L2.St) : Same' vs σ (wipe σ vs) := ⟨wipe_length _ _, fun i hi => by rw [wipe_get, if_neg fun z => hi z.1]⟩
theorem Same'.same {vs : List Nat} {a b c : L2.St} (h : Same' vs a b) (k : Same' vs b c) : Same' vs a c := ⟨k.1.trans h.1, fun i hi => (k.2 i hi).trans (h.2 i hi)⟩
theorem wipe_eq {vs : List Nat} {σ σ' : L2.St} (h : Same' vs σ σ') : wipe σ' vs = wipe σ vs := by
  refine List.ext_getElem? fun i => ?_
  rw [wipe_get, wipe_get, h.1]
  by_cases hi : i ∈ vs ∧ i < σ.length
  · rw [if_pos hi, if_pos hi]
  · rw [if_neg hi, if_neg hi]
    by_cases hv : i ∈ vs
    · have hl := h.1
      have : ¬ i < σ.length := fun z => hi ⟨hv, z⟩
      rw [List.getElem?_eq_none (by omega), List.getElem?_eq_none (by omega)]
    · exact h.2 i hv
theorem owns_restored {s0 s' : St} {vs : List Nat} {σ' : L2.St} (hl0 : s0.env.length = σ.length) (hl : s'.env.length = σ'.length) (hw : wipable s0.env vs = true) (sm : Same' vs σ σ') {m : Nat} {a : Addr} (h : Owns (restore s0.env s'.env vs) σ m a) : Owns s'.env σ' m a := by
  obtain ⟨⟨sm', q, hm⟩, z⟩ := h
  rw [restore_get] at q
  split at q
  · rename_i hi
    have hlt : m < s0.env.length := by rw [hl0, ← sm.1, ← hl]; exact hi.2
    rw [List.getElem?_eq_getElem hlt] at q
    simp only [Option.getD_some, Option.some.injEq] at q
    have := List.all_eq_true.mp hw m hi.1
    rw [List.getElem?_eq_getElem hlt, q] at this
    cases sm' <;> first | (cases hm; done) | (cases this; done)
  · rename_i hn
    refine ⟨⟨sm', q, hm⟩, ?_⟩
    have hlt : m < s'.env.length := (List.getElem?_eq_some_iff.mp q).1
    rw [sm.2 m fun z => hn ⟨z, hlt⟩]
    exact z
/-- behind the block: its own names are what they were -/
theorem SR.restored {R0 : Rl} {s0 s' : St} {vs : List Nat} {σ' : L2.St} (S0 : SR G P R0 σ s0) (hw : wipable s0.env vs = true) (st : Stp P R0 R) (sm : Same' vs σ σ') (S : SR G P R σ' s') : SR G P R σ { s' with env := restore s0.env s'.env vs } := by
  have hlen : s'.env.length = σ.length := by rw [S.len, sm.1]
  refine ⟨S.st, by show (restore s0.env s'.env vs).length = _; rw [restore_len]; exact hlen, fun i sl e => ?_, fun i j a h1 h2 => S.own i j a (owns_restored S0.len S.len hw sm h1) (owns_restored S0.len S.len hw sm h2)⟩
  have e' : (restore s0.env s'.env vs)[i]? = some sl := e
  rw [restore_get] at e'
  split at e'
  · rename_i hi
    have hlt : i < s0.env.length := by rw [S0.len, ← hlen]; exact hi.2
    rw [List.getElem?_eq_getElem hlt] at e'
    simp only [Option.getD_some, Option.some.injEq] at e'
    have q := S0.slot i _ (List.getElem?_eq_getElem hlt)
    have := List.all_eq_true.mp hw i hi.1
    rw [List.getElem?_eq_getElem hlt, e'] at this
    rw [e'] at q
    cases sl with
    | emp => trivial
    | val d => obtain ⟨v, e1, r⟩ := q; exact ⟨v, e1, r.mono st⟩
    | _ => cases this
  · rename_i hn
    have q := S.slot i sl e'
    have hlt : i < s'.env.length := (List.getElem?_eq_some_iff.mp e').1
    rw [sm.2 i fun z => hn ⟨z, hlt⟩] at q
    exact q
theorem if_pos_of {A B : Prop} (h : A) : if true = true then A else B := by rw [if_pos rfl]; exact h
theorem if_neg_of {A B : Prop} (h : B) : if false = true then A else B := by rw [if_neg Bool.false_ne_true]; exact h
/-- a comprehension's turn -/
abbrev cBody (T : Tab) (O : Orc) (vs : List Nat) (t : Tg) (cs : Es) (e : E) : D → M (Option D) := fun d => seq (wipeM vs) fun _ => seq (asg T O t d) fun _ => seq (evTs T O cs) fun c => if c then seq (ev T O false e) fun y => ret (some y) else ret none
/-- the comprehension's own reading -/
theorem lc_of {vs : List Nat} {t : Tg} {it : It} {cs : Es} {e : E} {own : List (Str × Nat)} (hvs : own.map (·.2) = vs) (hnm : ∀ i ∈ t.nms, i ∈ vs) {σ : L2.St} {H : Hp} {Q : VK} (bn : Bnd H) (q : tO G W (evOwn T O (.comp vs t it cs e)) σ H Q) :
    tLc (tIt T O G W it) (gT T O G W0 t) (tTs T O G cs) (tE T O G W0 false e) (own.map (·.2)) σ H (fun v H' => Bnd H' → Q v H') := by
  obtain ⟨P, R, s, rfl, _, S, g⟩ := q
  have g0 : wpR ((seq (evIt T O it) fun k => blk vs (compLoop k.ok (cBody T O vs t cs e) k.items)) s) (WO G P R σ Q) (exq G W P R) := g
  rw [hvs]
  refine ⟨P, R, s, rfl, bn, S, wpR.imp (wpR.bind g0) (fun k s1 g1 J R1 st1 b1 S1 z1 => ?_) fun _ _ _ k => k⟩
  intro D hD
  -- the block
  have g2 : wpR (blk vs (compLoop k.ok (cBody T O vs t cs e) k.items) s1) (WO G P R σ Q) (exq G W P R) := g1
  unfold blk at g2
  split at g2
  · rename_i hw
    have g3 : wpR (compLoop k.ok (cBody T O vs t cs e) k.items { s1 with env := wipeE s1.env vs }) (fun ds s' => WO G P R σ Q ds { s' with env := restore s1.env s'.env vs }) (fun _ _ _ => False) := by
      split at g2
      · rename_i ds s' e1; rw [e1]; exact g2
      · exact g2.elim
    obtain ⟨hlen, Pr, p1, p2, p3⟩ := z1
    have npD : ¬ P D := fun p => S1.st.av D (S1.st.pr D p) hD
    -- what holds between two turns
    let Inv' : Nat → Hp → Prop := fun i H => ∃ (R' : Rl) (σ' : L2.St) (s' : St) (acc : List Dn.D) (accV : List V), R'.H = H ∧ Same' vs σ σ' ∧ SR G P R' σ' s' ∧ Fre P R' s'.env σ' D ∧ Stp P R1 R' ∧ Pr R' ∧ H D = some (.lst accV) ∧ Reps G R' acc accV ∧ acc.length ≤ i ∧
      wpR (compLoop k.ok (cBody T O vs t cs e) (k.items.drop i) s') (fun ds s'' => WO G P R σ Q (acc ++ ds) { s'' with env := restore s1.env s''.env vs }) (fun _ _ _ => False)
    refine ⟨fun i m H => m = k.items.length - i ∧ i ≤ k.items.length ∧ Inv' i H, ⟨_, rfl, Nat.zero_le _, ?_⟩, ?_⟩
    · obtain ⟨R2, e2, st2, S2, f2⟩ := (S1.wiped vs).lay hD (.lst [])
      exact ⟨R2, wipe σ vs, { s1 with env := wipeE s1.env vs }, [], [], e2, Same'.wiped _ _, S2, f2, st2, p2 _ _ _ st2 p1, by rw [upd_same], Reps.nil, Nat.le_refl _, by simpa using g3⟩
    · rintro i m H ⟨rfl, hi', R', σ', s', acc, accV, rfl, sm', S', f', st', pr', hDl, ra, hal, gl⟩
      by_cases hlt : i < k.items.length
      · refine .inr ?_
        have hd : k.items.drop i = k.items[i] :: k.items.drop (i + 1) := List.drop_eq_getElem_cons hlt
        rw [hd] at gl
        have gl2 : wpR (if k.ok s' = true then (seq (cBody T O vs t cs e k.items[i]) fun y => seq (compLoop k.ok (cBody T O vs t cs e) (k.items.drop (i + 1))) fun ys => ret (match y with | some z => z :: ys | none => ys)) s' else .bad) (fun ds s'' => WO G P R σ Q (acc ++ ds) { s'' with env := restore s1.env s''.env vs }) (fun _ _ _ => False) := gl
        have chk : k.ok s' = true := by
          cases hk : k.ok s' with
          | true => rfl
          | false => rw [if_neg (by rw [hk]; exact Bool.false_ne_true)] at gl2; exact gl2.elim
        rw [if_pos chk] at gl2
        have SG := S'.guard f'
        obtain ⟨_, hit⟩ := p3 (Pd P D) R' σ' s' SG chk pr'
        obtain ⟨hgo, hyl⟩ := hit i _ (List.getElem?_eq_getElem hlt)
        refine ⟨hgo, Inv' (i + 1), fun H' h' => ⟨k.items.length - (i + 1), by omega, rfl, hlt, h'⟩, fun x H' hy => ?_⟩
        obtain ⟨R2, rfl, st2, S2, rx⟩ := hyl x H' hy
        have S2w := S2.wiped vs
        rw [wipe_eq sm'] at S2w
        -- the turn's parts
        have t1 := wpR.bind gl2
        have t2 : wpR ((seq (asg T O t k.items[i]) fun _ => seq (evTs T O cs) fun c => if c then seq (ev T O false e) fun y => ret (some y) else ret none) { s' with env := wipeE s'.env vs }) (fun y s2 => wpR ((seq (compLoop k.ok (cBody T O vs t cs e) (k.items.drop (i + 1))) fun ys => ret (match y with | some z => z :: ys | none => ys)) s2) (fun ds s'' => WO G P R σ Q (acc ++ ds) { s'' with env := restore s1.env s''.env vs }) (fun _ _ _ => False)) (fun _ _ _ => False) := t1
        refine ⟨Pd P D, R2, { s' with env := wipeE s'.env vs }, k.items[i], rfl, S2w, rx, wpR.imp (wpR.bind t2) (fun _ s3 t3 σ3 R3 st3 b3 S3 sm3 => ?_) fun _ _ _ z => z.elim⟩
        have sm3' : Same' vs (wipe σ vs) σ3 := sm3.sub hnm
        have smσ : Same' vs σ σ3 := (Same'.wiped vs σ).same sm3'
        refine ⟨wipe_eq smσ, Pd P D, R3, s3, rfl, b3, S3, wpR.imp (wpR.bind t3) (fun c s4 t4 c' R4 st4 b4 S4 ec => ?_) fun _ _ _ z => z.elim⟩
        subst ec
        have st24 : Stp (Pd P D) R' R4 := (st2.trans st3).trans st4
        cases c with
        | true =>
          refine if_pos_of ?_
          have t5 : wpR ((seq (ev T O false e) fun y => ret (some y)) s4) _ (fun _ _ _ => False) := t4
          refine ⟨Pd P D, R4, s4, rfl, b4, S4, wpR.imp (wpR.bind t5) (fun y s5 t6 v R5 st5 b5 S5 ry => ?_) fun _ _ _ z => z.elim⟩
          have st25 := st24.trans st5
          have hD5 : R5.H D = some (.lst accV) := (st25.prot D _ (.inr rfl) hDl).1
          obtain ⟨S5p, f5⟩ := S5.unguard npD
          obtain ⟨st6, S6⟩ := S5p.chgFree f5 (.lst (accV ++ [v]))
          have stP : Stp P R' R5 := st25.sub fun a p => .inl p
          refine ⟨accV, hD5, by rw [ra.length]; omega, { R5 with H := upd R5.H D (.lst (accV ++ [v])) }, σ3, s5, acc ++ [y], accV ++ [v], rfl, smσ, S6, ⟨f5.av, f5.np, f5.nr, f5.no⟩, (st'.trans stP).trans st6, p2 _ _ _ (stP.trans st6) pr', upd_same, ((ra.mono stP).append (Reps.cons ry Reps.nil)).mono st6, by rw [List.length_append, List.length_singleton]; omega, ?_⟩
          refine wpR.imp (wpR.bind (show wpR ((seq (compLoop k.ok (cBody T O vs t cs e) (k.items.drop (i + 1))) fun ys => ret (y :: ys)) s5) _ (fun _ _ _ => False) from t6)) (fun ys s7 t7 => ?_) fun _ _ _ z => z
          have t7' : WO G P R σ Q (acc ++ (y :: ys)) { s7 with env := restore s1.env s7.env vs } := t7
          rw [List.append_assoc]
          exact t7'
        | false =>
          refine if_neg_of ?_
          obtain ⟨S4p, f4⟩ := S4.unguard npD
          have stP : Stp P R' R4 := st24.sub fun a p => .inl p
          refine ⟨R4, σ3, s4, acc, accV, rfl, smσ, S4p, f4, st'.trans stP, p2 _ _ _ stP pr', (st24.prot D _ (.inr rfl) hDl).1, ra.mono stP, by omega, ?_⟩
          refine wpR.imp (wpR.bind (show wpR ((seq (compLoop k.ok (cBody T O vs t cs e) (k.items.drop (i + 1))) fun ys => ret ys) s4) _ (fun _ _ _ => False) from t4)) (fun ys s7 t7 => t7) fun _ _ _ z => z
      · have ei : i = k.items.length := by omega
        subst ei
        refine .inl ?_
        have gl' : wpR (if k.ok s' = true then (Rs.ok [] s' : Rs (List Dn.D)) else .bad) (fun ds s'' => WO G P R σ Q (acc ++ ds) { s'' with env := restore s1.env s''.env vs }) (fun _ _ _ => False) := by
          rw [List.drop_length] at gl
          exact gl
        split at gl'
        · rename_i chk
          obtain ⟨hst, _⟩ := p3 P R' σ' s' S' chk pr'
          refine ⟨hst, fun bb => ?_⟩
          have Sr := SR.restored S1 hw st' sm' S'
          have fr : Fre P R' (restore s1.env s'.env vs) σ D := ⟨f'.av, f'.np, f'.nr, fun j hj => f'.no j (owns_restored S1.len S'.len hw sm' hj)⟩
          obtain ⟨R9, e9, st9, S9, n9⟩ := Sr.drop fr
          have he : upd R9.H D (.lst accV) = R'.H := by
            funext b
            by_cases q : b = D
            · rw [q, upd_same]; exact hDl.symm
            · rw [upd_ne q, e9]; exact if_neg q
          have fin : WO G P R σ Q (acc ++ []) { s' with env := restore s1.env s'.env vs } := gl'
          have := fin D accV R9 ((st1.trans st').trans st9) S9 n9 (by rw [List.append_nil]; exact ra.mono st9) (by rw [he]; exact bb)
          rw [he] at this
          exact this
        · exact gl'.elim
  · exact g2.elim
theorem sO_comp {vs : List Nat} {t : Tg} {it : It} {cs : Es} {e : E} {elt tg iter : Expr} {ifs : List Expr} {scope : Scope} {own : List (Str × Nat)} {pos : Pos} (hc : X.calm = true) (hN : X.N.Nodup) (hi : PI X tg iter (tIt T O G W it)) (ok : BlkOk X.N X.env.scope scope own) (hvs : own.map (·.2) = vs)
    (hg : ∀ (s : Shared) (H : Hp) (C : Addr) (cl : List (Str × Addr)) (fp : List Addr), PG (X.blk s H scope (compEnvC scope cl C X.env) fp) tg (gT T O G W0 t))
    (ht : ∀ (s : Shared) (H : Hp) (C : Addr) (cl : List (Str × Addr)) (fp : List Addr), PTs (X.blk s H scope (compEnvC scope cl C X.env) fp) ifs (tTs T O G cs))
    (he : ∀ (s : Shared) (H : Hp) (C : Addr) (cl : List (Str × Addr)) (fp : List Addr), PE (X.blk s H scope (compEnvC scope cl C X.env) fp) elt (tE T O G W0 false e)) (hs : ∀ x, foldedSetIterable iter X.env x = pure x) (hnm : ∀ i ∈ t.nms, i ∈ vs) :
    PE X (.ListComp elt [⟨tg, iter, ifs, 0⟩] scope pos) (tO G W (evOwn T O (.comp vs t it cs e))) :=
  PE.weak (pe_lc hc hN hi ok hg ht he hs) fun _ _ _ bn q => lc_of hvs hnm bn q
end
end Dn

/-! PyStm: statements. -/
namespace Dn
open PySem L2
/-- what is wanted behind a statement that ended so -/
def Pst (G : Gm) (P : Addr → Prop) (R : Rl) (Dd : Ends) (o : Fl) (s' : St) : Prop := match o with
  | .nx => ∀ σ' R', Stp P R R' → Bnd R'.H → SR G P R' σ' s' → Dd.nx σ' R'.H
  | .rt d => ∀ v σ' R', Stp P R R' → Bnd R'.H → SR G P R' σ' s' → Rep G R' d v → Dd.rt v R'.H
  | .bk => ∀ σ' R', Stp P R R' → Bnd R'.H → SR G P R' σ' s' → Dd.bk σ' R'.H
  | .ct => ∀ σ' R', Stp P R R' → Bnd R'.H → SR G P R' σ' s' → Dd.ct σ' R'.H
def tSt (G : Gm) (W : WX) (m : M Fl) : TS := fun Dd σ H => ∃ P R s, R.H = H ∧ Bnd H ∧ SR G P R σ s ∧ wpR (m s) (Pst G P R Dd) (exq G W P R)
def Bd (Dd : Ends) : Ends := ⟨fun σ H => Bnd H → Dd.nx σ H, fun v H => Bnd H → Dd.rt v H, fun σ H => Bnd H → Dd.bk σ H, fun σ H => Bnd H → Dd.ct σ H⟩
section
variable {X : Cx} {T : Tab} {O : Orc} {G : Gm} {W : WX} {P : Addr → Prop} {R R' : Rl} {σ : L2.St} {s : St}
theorem Pst.step {Dd : Ends} {o : Fl} {s' : St} (h : Pst G P R Dd o s') (st : Stp P R R') : Pst G P R' Dd o s' := by
  cases o with
  | nx => exact fun σ' R2 a b c => h σ' R2 (st.trans a) b c
  | rt d => exact fun v σ' R2 a b c e => h v σ' R2 (st.trans a) b c e
  | bk => exact fun σ' R2 a b c => h σ' R2 (st.trans a) b c
  | ct => exact fun σ' R2 a b c => h σ' R2 (st.trans a) b c
theorem Pst.imp {Dd Dd' : Ends} {o : Fl} {s' : St} (h : Pst G P R Dd o s') (h1 : ∀ σ H, Dd.nx σ H → Dd'.nx σ H) (h2 : ∀ v H, Dd.rt v H → Dd'.rt v H) (h3 : ∀ σ H, Dd.bk σ H → Dd'.bk σ H) (h4 : ∀ σ H, Dd.ct σ H → Dd'.ct σ H) : Pst G P R Dd' o s' := by
  cases o with
  | nx => exact fun σ' R2 a b c => h1 _ _ (h σ' R2 a b c)
  | rt d => exact fun v σ' R2 a b c e => h2 _ _ (h v σ' R2 a b c e)
  | bk => exact fun σ' R2 a b c => h3 _ _ (h σ' R2 a b c)
  | ct => exact fun σ' R2 a b c => h4 _ _ (h σ' R2 a b c)
theorem Pst.bd {Dd : Ends} {o : Fl} {s' : St} (h : Pst G P R Dd o s') : Pst G P R (Bd Dd) o s' := h.imp (fun _ _ q _ => q) (fun _ _ q _ => q) (fun _ _ q _ => q) fun _ _ q _ => q
theorem SP.unbd {pins : List (Addr × PySem.Obj)} {Dd : Ends} {f : Flow} {s' : Shared} (h : SP X pins (Bd Dd) f s') : SP X pins Dd f s' := by
  cases f with
  | next => obtain ⟨σ', H', I, q⟩ := h; exact ⟨σ', H', I, q (Bnd.of I)⟩
  | brk => obtain ⟨σ', H', I, q⟩ := h; exact ⟨σ', H', I, q (Bnd.of I)⟩
  | cont => obtain ⟨σ', H', I, q⟩ := h; exact ⟨σ', H', I, q (Bnd.of I)⟩
  | ret u => obtain ⟨v, σ', H', I, r, q⟩ := h; exact ⟨v, σ', H', I, r, q (Bnd.of I)⟩
theorem PS.weak {st : Stmt} {t t' : TS} (h : PS X st t) (hw : ∀ Dd σ H, Bnd H → t' Dd σ H → t (Bd Dd) σ H) : PS X st t' :=
  ⟨fun pins s σ H Dd I q => thn (h.run pins s σ H (Bd Dd) I (hw Dd σ H (Bnd.of I) q)) fun _ _ k => SP.unbd k⟩
theorem PSs.weak {st : List Stmt} {t t' : TS} (h : PSs X st t) (hw : ∀ Dd σ H, Bnd H → t' Dd σ H → t (Bd Dd) σ H) : PSs X st t' :=
  ⟨fun pins s σ H Dd I q => thn (h.run pins s σ H (Bd Dd) I (hw Dd σ H (Bnd.of I) q)) fun _ _ k => SP.unbd k⟩
/-! ### blocks -/
theorem ss_nil : PSs X [] (tSt G W (exs T O .nil)) := PSs.weak pss_nil fun Dd σ H bn q => by
  obtain ⟨P, R, s, rfl, _, S, g⟩ := q
  have g' : Pst G P R Dd .nx s := g
  exact fun _ => g' σ R S.refl bn S
theorem ss_cons {x : S} {r : Ss} {st : Stmt} {sts : List Stmt} (h1 : PS X st (tSt G W (ex T O x))) (h2 : PSs X sts (tSt G W (exs T O r))) : PSs X (st :: sts) (tSt G W (exs T O (.cons x r))) := PSs.weak (pss_cons h1 h2) fun Dd σ H bn q => by
  obtain ⟨P, R, s, rfl, _, S, g⟩ := q
  have g' : wpR ((seq (ex T O x) fun o => match o with | .nx => exs T O r | o => ret o) s) (Pst G P R Dd) (exq G W P R) := g
  refine ⟨P, R, s, rfl, bn, S, wpR.imp (wpR.bind g') (fun o s1 k => ?_) fun _ _ _ k => k⟩
  cases o with
  | nx => exact fun σ1 R1 st1 b1 S1 => ⟨P, R1, s1, rfl, b1, S1, wpR.imp k (fun o s2 k2 => (k2.step st1).bd) fun _ _ _ k => k.step st1⟩
  | rt d =>
    have k' : Pst G P R Dd (.rt d) s1 := k
    exact fun v σ' R' a b c e _ => k' v σ' R' a b c e
  | bk =>
    have k' : Pst G P R Dd .bk s1 := k
    exact fun σ' R' a b c _ => k' σ' R' a b c
  | ct =>
    have k' : Pst G P R Dd .ct s1 := k
    exact fun σ' R' a b c _ => k' σ' R' a b c
/-! ### small statements -/
theorem ss_pas {pos : Pos} : PS X (.Pass pos) (tSt G W (ex T O .pas)) := PS.weak ps_pass fun Dd σ H bn q => by
  obtain ⟨P, R, s, rfl, _, S, g⟩ := q
  have g' : Pst G P R Dd .nx s := g
  exact fun _ => g' σ R S.refl bn S
theorem ss_doc {x : Str} {j : Nat} {pos pos' : Pos} : PS X (.Expr (.Constant (.str x) j pos) pos') (tSt G W (ex T O .doc)) := PS.weak ps_doc fun Dd σ H bn q => by
  obtain ⟨P, R, s, rfl, _, S, g⟩ := q
  have g' : Pst G P R Dd .nx s := g
  exact fun _ => g' σ R S.refl bn S
theorem ss_brk {pos : Pos} : PS X (.Break pos) (tSt G W (ex T O .brk)) := PS.weak ps_break fun Dd σ H bn q => by
  obtain ⟨P, R, s, rfl, _, S, g⟩ := q
  have g' : Pst G P R Dd .bk s := g
  exact fun _ => g' σ R S.refl bn S
theorem ss_cnt {pos : Pos} : PS X (.Continue pos) (tSt G W (ex T O .cnt)) := PS.weak ps_continue fun Dd σ H bn q => by
  obtain ⟨P, R, s, rfl, _, S, g⟩ := q
  have g' : Pst G P R Dd .ct s := g
  exact fun _ => g' σ R S.refl bn S
theorem ss_never {st : Stmt} : PS X st (tSt G W (ex T O .never)) := PS.weak ps_never fun Dd σ H bn q => by
  obtain ⟨P, R, s, rfl, _, S, g⟩ := q
  exact (show False from g)
theorem ss_retn {pos : Pos} : PS X (.Return none pos) (tSt G W (ex T O .retn)) := PS.weak ps_retN fun Dd σ H bn q => by
  obtain ⟨P, R, s, rfl, _, S, g⟩ := q
  have g' : Pst G P R Dd (.rt .non) s := g
  exact fun _ => g' _ σ R S.refl bn S Rep.non
theorem ss_ret {x : E} {e : Expr} {pos : Pos} (h : PE X e (tE T O G W false x)) : PS X (.Return (some e) pos) (tSt G W (ex T O (.ret x))) := PS.weak (ps_ret h) fun Dd σ H bn q => by
  obtain ⟨P, R, s, rfl, _, S, g⟩ := q
  have g' : wpR ((seq (ev T O false x) fun d => ret (Fl.rt d)) s) (Pst G P R Dd) (exq G W P R) := g
  exact ⟨P, R, s, rfl, bn, S, wpR.imp (wpR.bind g') (fun d s1 k v R1 st1 b1 S1 z1 _ => (show Pst G P R Dd (.rt d) s1 from k) v σ R1 st1 b1 S1 z1) fun _ _ _ k => k⟩
theorem ss_expr {x : E} {e : Expr} {pos : Pos} (h : PE X e (tE T O G W true x)) (hs : swapsWith e none pos.line X.env = pure false) : PS X (.Expr e pos) (tSt G W (ex T O (.expr x))) := PS.weak (ps_expr h hs) fun Dd σ H bn q => by
  obtain ⟨P, R, s, rfl, _, S, g⟩ := q
  have g' : wpR ((seq (ev T O true x) fun _ => ret Fl.nx) s) (Pst G P R Dd) (exq G W P R) := g
  exact ⟨P, R, s, rfl, bn, S, wpR.imp (wpR.bind g') (fun d s1 k v R1 st1 b1 S1 z1 _ => (show Pst G P R Dd .nx s1 from k) σ R1 st1 b1 S1) fun _ _ _ k => k⟩
theorem ss_ite {c : E} {a b : Ss} {e : Expr} {as bs : List Stmt} {pos : Pos} (h : PT X e (tT T O G W c)) (ha : PSs X as (tSt G W (exs T O a))) (hb : PSs X bs (tSt G W (exs T O b))) : PS X (.If e as bs pos) (tSt G W (ex T O (.ite c a b))) := PS.weak (ps_if h ha hb) fun Dd σ H bn q => by
  obtain ⟨P, R, s, rfl, _, S, g⟩ := q
  have g' : wpR ((seq (ev T O true c) fun u => match u with | .bl true => exs T O a | .bl false => exs T O b | _ => bad) s) (Pst G P R Dd) (exq G W P R) := g
  refine ⟨P, R, s, rfl, bn, S, wpR.imp (wpR.bind g') (fun u s1 k v R1 st1 b1 S1 z1 => ?_) fun _ _ _ k => k⟩
  have z : RepB G R1 σ u v := z1
  cases u with
  | bl q =>
    have e : v = .bl q := by have h : Rep G R1 (.bl q) v := z; unfold Rep at h; exact h
    refine ⟨q, e, ?_⟩
    cases q with
    | true => exact ⟨P, R1, s1, rfl, b1, S1, wpR.imp k (fun o s2 k2 => (k2.step st1).bd) fun _ _ _ k => k.step st1⟩
    | false => exact ⟨P, R1, s1, rfl, b1, S1, wpR.imp k (fun o s2 k2 => (k2.step st1).bd) fun _ _ _ k => k.step st1⟩
  | _ => exact (show False from k).elim
/-! ### stores -/
theorem ss_asg {x : E} {t : Tg} {e tg : Expr} {pos : Pos} (h : PE X e (tE T O G W false x)) (hg : PG X tg (gT T O G W t)) (hs : swapsWithSole [tg] e pos.line X.env = pure false) (hw : swappedStores [tg] e X.env = pure none) (h1 : (assignEach [tg] X.env).map (·.2) = [assign tg X.env]) :
    PS X (.Assign [tg] e pos) (tSt G W (ex T O (.asg t x))) := PS.weak (ps_asg h hg hs hw h1) fun Dd σ H bn q => by
  obtain ⟨P, R, s, rfl, _, S, g⟩ := q
  have g' : wpR ((seq (ev T O false x) fun d => seq (asg T O t d) fun _ => ret Fl.nx) s) (Pst G P R Dd) (exq G W P R) := g
  refine ⟨P, R, s, rfl, bn, S, wpR.imp (wpR.bind g') (fun d s1 k v R1 st1 b1 S1 z1 => ?_) fun _ _ _ k => k⟩
  refine ⟨P, R1, s1, d, rfl, S1, z1, wpR.imp (wpR.bind k) (fun _ s2 k2 σ' R2 st2 b2 S2 _ _ => ?_) fun _ _ _ k => k.step st1⟩
  exact (show Pst G P R Dd .nx s2 from k2) σ' R2 (st1.trans st2) b2 S2
/-- a list of one's own is stored under a name -/
theorem SR.storeOwn (S : SR G P R σ s) {i : Nat} {ds : List D} {xs : List V} {a : Addr} (hi : i < s.env.length) (hn : R.H a = none) (r : Reps G R ds xs) :
    ∃ R', R'.H = upd R.H a (.lst xs) ∧ Stp P R R' ∧ SR G P R' (σ.set i (some (.ref a))) (s.put i (.own ds)) := by
  obtain ⟨R', e1, st, S', f⟩ := S.lay hn (.lst xs)
  have hσ : i < σ.length := by rw [← S.len]; exact hi
  refine ⟨R', e1, st, ⟨S'.st, by show (s.env.set i _).length = (σ.set i _).length; rw [List.length_set, List.length_set]; exact S.len, fun j sl e => ?_, fun j k b h1 h2 => ?_⟩⟩
  · have e' : (s.env.set i (.own ds))[j]? = some sl := e
    by_cases hj : i = j
    · subst hj
      rw [List.getElem?_set_self hi] at e'
      cases e'
      rw [List.getElem?_set_self hσ]
      exact ⟨a, xs, rfl, by rw [e1, upd_same], r.mono st, f.av, f.np, f.nr⟩
    · rw [List.getElem?_set_ne hj] at e'
      rw [List.getElem?_set_ne hj]
      exact S'.slot j sl e'
  · have split : ∀ m, Owns (s.env.set i (.own ds)) (σ.set i (some (.ref a))) m b → (m = i ∧ b = a) ∨ (m ≠ i ∧ Owns s.env σ m b) := fun m ⟨⟨sm, q, hm⟩, z⟩ => by
      by_cases hmi : i = m
      · subst hmi
        rw [List.getElem?_set_self hσ] at z
        cases z
        exact .inl ⟨rfl, rfl⟩
      · rw [List.getElem?_set_ne hmi] at q z; exact .inr ⟨fun e => hmi e.symm, ⟨sm, q, hm⟩, z⟩
    rcases split j h1 with ⟨rfl, rfl⟩ | ⟨_, o1⟩
    · rcases split k h2 with ⟨rfl, _⟩ | ⟨_, o2⟩
      · rfl
      · exact (f.no k o2).elim
    · rcases split k h2 with ⟨rfl, rfl⟩ | ⟨_, o2⟩
      · exact (f.no j o1).elim
      · exact S.own j k b o1 o2
theorem own_read {x : E} {i : Nat} {Dd : Ends} {σ : L2.St} {H : Hp} (q : tSt G W (ex T O (.aown i x)) Dd σ H) : tO G W (evOwn T O x) σ H (fun v H1 => gName i v σ H1 Dd.nx) := by
  obtain ⟨P, R, s, rfl, bn, S, g⟩ := q
  have g' : wpR ((seq (evOwn T O x) fun ds => fun s => if i < s.env.length then Rs.ok Fl.nx (s.put i (.own ds)) else .bad) s) (Pst G P R Dd) (exq G W P R) := g
  refine ⟨P, R, s, rfl, bn, S, wpR.imp (wpR.bind g') (fun ds s1 k a xs R1 st1 S1 hn hr bb => ?_) fun _ _ _ k => k⟩
  have k' : wpR (if i < s1.env.length then Rs.ok Fl.nx (s1.put i (.own ds)) else .bad) (Pst G P R Dd) (exq G W P R) := k
  split at k'
  · rename_i hi
    obtain ⟨R', e1, st', S'⟩ := S1.storeOwn hi hn hr
    have := (show Pst G P R Dd .nx (s1.put i (.own ds)) from k') _ R' (st1.trans st') (by rw [e1]; exact bb) S'
    rw [e1] at this
    exact this
  · exact k'.elim
theorem ss_aown {x : E} {i : Nat} {y : Str} {e : Expr} {py pos : Pos} (h : PE X e (tO G W (evOwn T O x))) (hN : X.N.Nodup) (hi : X.N[i]? = some y) (hx : Loc X.env.scope y) (hf : X.fn y = true ∨ X.env.scope.names.lookup y = some .local) (hs : swapsWithSole [.Name y py] e pos.line X.env = pure false) :
    PS X (.Assign [.Name y py] e pos) (tSt G W (ex T O (.aown i x))) := PS.weak (ps_asg h (pg_name hN hi hx hf) hs rfl rfl) fun Dd σ H bn q => by
  obtain ⟨P, R, s, e1, b1, S, k⟩ := own_read q
  exact ⟨P, R, s, e1, b1, S, wpR.imp k (fun ds s1 k2 a xs R1 st1 S1 hn hr bb _ => k2 a xs R1 st1 S1 hn hr bb) fun _ _ _ k => k⟩
end
end Dn

/-! PyStm2: comprehensions under a name, fields, loops. -/
namespace Dn
open PySem L2
section
variable {X : Cx} {T : Tab} {O : Orc} {G : Gm} {W : WX} {P : Addr → Prop} {R R' : Rl} {σ : L2.St} {s : St}
theorem frz_read {x : E} {i : Nat} {Dd : Ends} {σ : L2.St} {H : Hp} (hx : ev T O false x = seq (evOwn T O x) fun ds => ret (.lst ds)) (q : tSt G W (ex T O (.asg (.nm i) x)) Dd σ H) : tO G W (evOwn T O x) σ H (fun v H1 => gName i v σ H1 Dd.nx) := by
  obtain ⟨P, R, s, rfl, bn, S, g⟩ := q
  have g' : wpR ((seq (ev T O false x) fun d => seq (asg T O (.nm i) d) fun _ => ret Fl.nx) s) (Pst G P R Dd) (exq G W P R) := g
  rw [hx, seq_assoc] at g'
  refine ⟨P, R, s, rfl, bn, S, wpR.imp (wpR.bind g') (fun ds s1 k a xs R1 st1 S1 hn hr bb => ?_) fun _ _ _ k => k⟩
  have k' : wpR ((if i < s1.env.length then Rs.ok () (s1.put i (.val (.lst ds))) else .bad : Rs Unit).bind fun _ => ret Fl.nx) (Pst G P R Dd) (exq G W P R) := k
  split at k'
  · rename_i hi
    have S2 := S1.laid (o := .lst xs) hn
    have st2 := S1.st.stepLaid (o := .lst xs) hn
    exact (show Pst G P R Dd .nx (s1.put i (.val (.lst ds))) from k') _ { R1 with H := upd R1.H a (.lst xs) } (st1.trans st2) bb (S2.store hi (Rep.new_lst S1 hn hr))
  · exact k'.elim
/-- name = [.. for ..] -/
theorem ss_setLc {i : Nat} {y : Str} {py : Pos} {st : S} {vs : List Nat} {t : Tg} {it : It} {cs : Es} {e : E} {elt tg iter : Expr} {ifs : List Expr} {scope : Scope} {own : List (Str × Nat)} {pos spos : Pos} (hc : X.calm = true) (hN : X.N.Nodup) (hy : X.N[i]? = some y) (hyl : X.env.scope.names.lookup y = some .local)
    (hsw : swapsWith (.ListComp elt [⟨tg, iter, ifs, 0⟩] scope pos) (some (.Name y py)) spos.line X.env = pure true) (hi : PI X tg iter (tIt T O G W it)) (ok : BlkOk X.N X.env.scope scope own) (hvs : own.map (·.2) = vs)
    (hg : ∀ (s : Shared) (H : Hp) (C : Addr) (cl : List (Str × Addr)) (fp : List Addr), PG (X.blk s H scope (compEnvC scope cl C X.env) fp) tg (gT T O G W0 t))
    (ht : ∀ (s : Shared) (H : Hp) (C : Addr) (cl : List (Str × Addr)) (fp : List Addr), PTs (X.blk s H scope (compEnvC scope cl C X.env) fp) ifs (tTs T O G cs))
    (he : ∀ (s : Shared) (H : Hp) (C : Addr) (cl : List (Str × Addr)) (fp : List Addr), PE (X.blk s H scope (compEnvC scope cl C X.env) fp) elt (tE T O G W0 false e)) (hs : ∀ x, foldedSetIterable iter X.env x = pure x) (hnm : ∀ i ∈ t.nms, i ∈ vs)
    (hst : ∀ Dd σ H, tSt G W (ex T O st) Dd σ H → tO G W (evOwn T O (.comp vs t it cs e)) σ H (fun v H1 => gName i v σ H1 Dd.nx)) :
    PS X (.Assign [.Name y py] (.ListComp elt [⟨tg, iter, ifs, 0⟩] scope pos) spos) (tSt G W (ex T O st)) :=
  PS.weak (ps_setLc hc hN hy hyl hsw hi ok hg ht he hs) fun Dd σ H bn q => lc_of (Q := fun v H1 => gName i v σ H1 Dd.nx) hvs hnm bn (hst Dd σ H q)
/-! ### fields -/
theorem ss_fld {nm : Nat → Str} (fn : FNm T G nm) (OK : GOk G) (hK : X.K = G.K) {x v : E} {f : Nat} {o value : Expr} {pos pos' : Pos} (ha : PE X o (tE T O G W true x)) (hv : PE X value (tE T O G W false v)) (hs : swapsWith value (some (.Attribute o (nm f) pos')) pos.line X.env = pure false) :
    PS X (.Assign [.Attribute o (nm f) pos'] value pos) (tSt G W (ex T O (.asg (.fld x f) v))) := PS.weak (ps_fld ha hv hs) fun Dd σ H bn q => by
  obtain ⟨P, R, s, rfl, _, S, g⟩ := q
  have g' : wpR ((seq (ev T O false v) fun d => seq (seq (ev T O true x) fun u => setFld T u f d) fun _ => ret Fl.nx) s) (Pst G P R Dd) (exq G W P R) := g
  simp only [seq_assoc] at g'
  refine ⟨P, R, s, rfl, bn, S, wpR.imp (wpR.bind g') (fun d s1 k y R1 st1 b1 S1 z1 => ?_) fun _ _ _ k => k⟩
  refine ⟨P, R1, s1, rfl, b1, S1, wpR.imp (wpR.bind k) (fun u s2 k2 w R2 st2 b2 S2 z2 => ?_) fun _ _ _ k => k.step st1⟩
  have k3 : wpR ((setFld T u f d s2).bind fun _ => ret Fl.nx) (Pst G P R Dd) (exq G W P R) := k2
  cases e : setFld T u f d s2 with
  | ok q s3 =>
    rw [e] at k3
    obtain ⟨a, C, dx, fs, e1, h1, h2, h3, h4, R3, e3, st3, S3⟩ := setFld_ok fn OK S2 e z2 (Rep.mono st2 z1)
    refine ⟨a, C, dx, fs, e1, h1, by rw [hK]; exact h2, by rw [hK]; exact h3, h4, fun bb => ?_⟩
    have := (show Pst G P R Dd .nx s3 from k3) σ R3 ((st1.trans st2).trans st3) (by rw [e3]; exact bb) S3
    rw [e3] at this
    exact this
  | exc c a s3 =>
    exfalso
    unfold setFld at e
    cases u <;> simp only at e <;> first | (cases e; done) | (repeat' split at e) <;> cases e
  | bad => rw [e] at k3; exact k3.elim
/-! ### a, b = x, y -/
theorem ss_par {i j : Nat} {u v : E} {x y : Str} {a b : Expr} {px py pt pos : Pos} {kt k2 pt2} (hc : X.calm = true) (hN : X.N.Nodup) (hi : X.N[i]? = some x) (hj : X.N[j]? = some y) (hij : i ≠ j)
    (hx : X.env.scope.names.lookup x = some .local) (hy : X.env.scope.names.lookup y = some .local) (ha : PE X a (tE T O G W false u)) (hb : PE X b (tE T O G W false v)) (h1 : starEach [a, b] X.env = (false, eval a X.env) :: starEach [b] X.env) (h2 : starEach [b] X.env = (false, eval b X.env) :: starEach [] X.env)
    (hw : swappedStores [.Tuple [.Name x px, .Name y py] kt pt] (.Tuple [a, b] k2 pt2) X.env = pure (some [x, y])) (hs : swapsWithSole [.Tuple [.Name x px, .Name y py] kt pt] (.Tuple [a, b] k2 pt2) pos.line X.env = pure false) :
    PS X (.Assign [.Tuple [.Name x px, .Name y py] kt pt] (.Tuple [a, b] k2 pt2) pos) (tSt G W (ex T O (.par i j u v))) := PS.weak (ps_par hc hN hi hj hij hx hy (pa_cons ha (pa_cons hb pa_nil h2) h1) hw hs) fun Dd σ H bn q => by
  obtain ⟨P, R, s, rfl, _, S, g⟩ := q
  have g' : wpR ((seq (ev T O false u) fun p => seq (ev T O false v) fun q => fun s => if i < s.env.length ∧ j < s.env.length then Rs.ok Fl.nx ((s.put i (.val p)).put j (.val q)) else .bad) s) (Pst G P R Dd) (exq G W P R) := g
  refine ⟨P, R, s, rfl, bn, S, wpR.imp (wpR.bind g') (fun d s1 k v1 R1 st1 b1 S1 z1 => ?_) fun _ _ _ k => k⟩
  refine ⟨P, R1, s1, rfl, b1, S1, wpR.imp (wpR.bind k) (fun d2 s2 k2 v2 R2 st2 b2 S2 z2 => ?_) fun _ _ _ k => k.step st1⟩
  have k3 : wpR (if i < s2.env.length ∧ j < s2.env.length then Rs.ok Fl.nx ((s2.put i (.val d)).put j (.val d2)) else .bad) (Pst G P R Dd) (exq G W P R) := k2
  split at k3
  · rename_i hlt
    have S3 := S2.store (i := i) (d := d) (v := v1) hlt.1 (Rep.mono st2 z1)
    have S4 := S3.store (i := j) (d := d2) (v := v2) (by show j < (s2.env.set i _).length; rw [List.length_set]; exact hlt.2) z2
    exact ⟨v1, v2, rfl, fun _ => (show Pst G P R Dd .nx _ from k3) _ R2 (st1.trans st2) b2 S4⟩
  · exact k3.elim
/-! ### for -/
theorem ss_for {t : Tg} {it : It} {b : Ss} {tg iter : Expr} {body : List Stmt} {pos : Pos} (hp : PassesOwn (model X.prog X.w) X.A X.env X.xe) (hc : X.calm = true) (hi : PI X tg iter (tIt T O G W it)) (hg : PG X tg (gT T O G W t)) (hb : PSs X body (tSt G W (exs T O b))) (hs : ∀ x, foldedSetIterable iter X.env x = pure x) :
    PS X (.For tg iter body [] pos) (tSt G W (ex T O (.fors t it b))) := PS.weak (ps_for hp hc hi hg hb hs) fun Dd σ H bn q => by
  obtain ⟨P, R, s, rfl, _, S, g⟩ := q
  have g' : wpR ((seq (evIt T O it) fun k => forLoop k.ok (fun d => seq (asg T O t d) fun _ => exs T O b) k.items) s) (Pst G P R Dd) (exq G W P R) := g
  refine ⟨P, R, s, rfl, bn, S, wpR.imp (wpR.bind g') (fun k s1 g1 J R1 st1 b1 S1 z1 => ?_) fun _ _ _ k => k⟩
  obtain ⟨hlen, Pr, p1, p2, p3⟩ := z1
  let Inv' : Nat → L2.St → Hp → Prop := fun i σ' H => ∃ (R' : Rl) (s' : St), R'.H = H ∧ SR G P R' σ' s' ∧ Stp P R R' ∧ Pr R' ∧ Bnd R'.H ∧
    wpR (forLoop k.ok (fun d => seq (asg T O t d) fun _ => exs T O b) (k.items.drop i) s') (Pst G P R Dd) (exq G W P R)
  refine ⟨fun i m σ' H => m = k.items.length - i ∧ i ≤ k.items.length ∧ Inv' i σ' H, ⟨_, rfl, Nat.zero_le _, R1, s1, rfl, S1, st1, p1, b1, by simpa using g1⟩, ?_⟩
  rintro i m σ' H ⟨rfl, hi', R', s', rfl, S', st', pr', bb', gl⟩
  by_cases hlt : i < k.items.length
  · refine .inr ?_
    have hd : k.items.drop i = k.items[i] :: k.items.drop (i + 1) := List.drop_eq_getElem_cons hlt
    rw [hd] at gl
    have gl2 : wpR (if k.ok s' = true then (seq (seq (asg T O t k.items[i]) fun _ => exs T O b) fun o => match o with
      | .nx | .ct => forLoop k.ok (fun d => seq (asg T O t d) fun _ => exs T O b) (k.items.drop (i + 1))
      | .bk => ret .nx
      | .rt v => ret (.rt v)) s' else .bad) (Pst G P R Dd) (exq G W P R) := gl
    have chk : k.ok s' = true := by
      cases hk : k.ok s' with
      | true => rfl
      | false => rw [if_neg (by rw [hk]; exact Bool.false_ne_true)] at gl2; exact gl2.elim
    rw [if_pos chk, seq_assoc] at gl2
    obtain ⟨_, hit⟩ := p3 P R' σ' s' S' chk pr'
    obtain ⟨hgo, hyl⟩ := hit i _ (List.getElem?_eq_getElem hlt)
    refine ⟨hgo, Inv' (i + 1), fun σ2 H' h' => ⟨k.items.length - (i + 1), by omega, rfl, hlt, h'⟩, fun x H' hy => ?_⟩
    obtain ⟨R2, rfl, st2, S2, rx⟩ := hyl x H' hy
    refine ⟨P, R2, s', k.items[i], rfl, S2, rx, wpR.imp (wpR.bind gl2) (fun _ s3 t3 σ3 R3 st3 b3 S3 sm3 => ?_) fun _ _ _ k => k.step (st'.trans st2)⟩
    have st13 := (st'.trans st2).trans st3
    refine ⟨P, R3, s3, rfl, b3, S3, wpR.imp (wpR.bind t3) (fun o s4 t4 => ?_) fun _ _ _ k => k.step st13⟩
    have go : wpR (forLoop k.ok (fun d => seq (asg T O t d) fun _ => exs T O b) (k.items.drop (i + 1)) s4) (Pst G P R Dd) (exq G W P R) → ∀ σ5 R5, Stp P R3 R5 → Bnd R5.H → SR G P R5 σ5 s4 → Inv' (i + 1) σ5 R5.H := fun t σ5 R5 a b c =>
      ⟨R5, s4, rfl, c, st13.trans a, p2 _ _ _ ((st2.trans st3).trans a) pr', b, t⟩
    cases o with
    | nx => exact fun σ5 R5 a b c => go t4 σ5 R5 a b c
    | ct => exact fun σ5 R5 a b c => go t4 σ5 R5 a b c
    | bk => exact fun σ5 R5 a b c _ => (show Pst G P R Dd .nx s4 from t4) σ5 R5 (st13.trans a) b c
    | rt d => exact fun v σ5 R5 a b c e _ => (show Pst G P R Dd (.rt d) s4 from t4) v σ5 R5 (st13.trans a) b c e
  · have ei : i = k.items.length := by omega
    subst ei
    refine .inl ?_
    rw [List.drop_length] at gl
    have gl' : wpR (if k.ok s' = true then (Rs.ok Fl.nx s' : Rs Fl) else .bad) (Pst G P R Dd) (exq G W P R) := gl
    split at gl'
    · rename_i chk
      obtain ⟨hst, _⟩ := p3 P R' σ' s' S' chk pr'
      exact ⟨hst, fun bb => (show Pst G P R Dd .nx s' from gl') σ' R' st' bb S'⟩
    · exact gl'.elim
/-! ### while -/
theorem ss_whl {n : Nat} {c : E} {b : Ss} {e : Expr} {body : List Stmt} {pos : Pos} (hp : PassesOwn (model X.prog X.w) X.A X.env X.xe) (hc : PT X e (tT T O G W c)) (hb : PSs X body (tSt G W (exs T O b))) :
    PS X (.While e body [] pos) (tSt G W (ex T O (.whl n c b))) := PS.weak (ps_while hp hc hb) fun Dd σ H bn q => by
  obtain ⟨P, R, s, rfl, _, S, g⟩ := q
  refine ⟨fun m σ' H => ∃ (R' : Rl) (s' : St), R'.H = H ∧ SR G P R' σ' s' ∧ Stp P R R' ∧ Bnd R'.H ∧ wpR (whlLoop (ev T O true c) (exs T O b) m s') (Pst G P R Dd) (exq G W P R), ⟨n, R, s, rfl, S, S.refl, bn, g⟩, ?_⟩
  rintro m σ' H ⟨R', s', rfl, S', st', bb, gl⟩
  cases m with
  | zero => exact (show False from gl).elim
  | succ m =>
    have gl' : wpR ((seq (ev T O true c) fun u => match u with
      | .bl true => seq (exs T O b) fun o => (match o with
        | .nx | .ct => whlLoop (ev T O true c) (exs T O b) m
        | .bk => ret .nx
        | .rt v => ret (.rt v))
      | .bl false => ret .nx
      | _ => bad) s') (Pst G P R Dd) (exq G W P R) := gl
    refine ⟨P, R', s', rfl, bb, S', wpR.imp (wpR.bind gl') (fun u s1 k v R1 st1 b1 S1 z1 => ?_) fun _ _ _ k => k.step st'⟩
    have z : RepB G R1 σ' u v := z1
    cases u with
    | bl q =>
      have e : v = .bl q := by have h : Rep G R1 (.bl q) v := z; unfold Rep at h; exact h
      refine ⟨q, e, ?_⟩
      have st1' := st'.trans st1
      cases q with
      | true =>
        refine if_pos_of ⟨fun σ2 H2 => ∃ (R' : Rl) (s' : St), R'.H = H2 ∧ SR G P R' σ2 s' ∧ Stp P R R' ∧ Bnd R'.H ∧ wpR (whlLoop (ev T O true c) (exs T O b) m s') (Pst G P R Dd) (exq G W P R), fun σ2 H2 h2 => ⟨m, Nat.lt_succ_self m, h2⟩, ?_⟩
        refine ⟨P, R1, s1, rfl, b1, S1, wpR.imp (wpR.bind k) (fun o s4 t4 => ?_) fun _ _ _ k => k.step st1'⟩
        cases o with
        | nx => exact fun σ5 R5 a b c => ⟨R5, s4, rfl, c, st1'.trans a, b, t4⟩
        | ct => exact fun σ5 R5 a b c => ⟨R5, s4, rfl, c, st1'.trans a, b, t4⟩
        | bk => exact fun σ5 R5 a b c _ => (show Pst G P R Dd .nx s4 from t4) σ5 R5 (st1'.trans a) b c
        | rt d => exact fun v σ5 R5 a b c e _ => (show Pst G P R Dd (.rt d) s4 from t4) v σ5 R5 (st1'.trans a) b c e
      | false => exact if_neg_of fun _ => (show Pst G P R Dd .nx s1 from k) σ' R1 st1' b1 S1
    | _ => exact (show False from k).elim
end
end Dn

/-! PyCheck: a tree of the small language tells the same as a tree of the row. -/
namespace Dn
open PySem L2
/-- a def's names and its module's -/
structure Ck where
  N : List Str
  sc : Scope
  /-- whose cells are made here -/
  fc : List (Str × NameKind)
  gi : List (Str × Int)
  bl : List Str
  fns : List (Option Str)
  dfl : List (List (List D))
  cls : List Str
  inits : List Nat
  nm : List Str
  /-- calls by keywords: the def, how many values ahead, the names, the order -/
  kbs : List (Nat × Nat × List Str × List Nat)
/-- a block's scope, seen from its def's -/
def relab (scope sc : Scope) : Scope := { scope with names := scope.names.map fun (n, k) => if (k == NameKind.free && sc.kind == .function && sc.names.lookup n == some .cell) then (n, NameKind.cell) else (n, k) }
def Ck.blk (ck : Ck) (scope : Scope) : Ck := { ck with sc := relab scope ck.sc, fc := scope.names }
def visB (sc : Scope) (x : Str) : Bool := match sc.names.lookup x with
  | some .local | some .cell | some .free => true
  | _ => false
def locB (ck : Ck) (x : Str) : Bool := match ck.sc.names.lookup x with
  | some .local => true
  | some .cell => (match ck.fc.lookup x with
    | some .cell => true
    | _ => false)
  | _ => false
def glB (sc : Scope) (x : Str) : Bool := match sc.names.lookup x with
  | some .globalImplicit => true
  | _ => false
def lcB (sc : Scope) (x : Str) : Bool := match sc.names.lookup x with
  | some .local => true
  | _ => false
def nmOk (x : Str) : Bool := !(x == ("__debug__" : Str)) && !(x == ("__classdict__" : Str))
def opIs : Op2 → Operator → Bool
  | .add, .Add | .sub, .Sub | .mul, .Mult | .fdiv, .FloorDiv | .mod, .Mod | .pow, .Pow => true
  | _, _ => false
def copIs : COp → CmpOp → Bool
  | .eq, .Eq | .ne, .NotEq | .lt, .Lt | .le, .LtE | .gt, .Gt | .ge, .GtE | .isin, .In | .notin, .NotIn => true
  | _, _ => false
def iscIs : Bool → CmpOp → Bool
  | true, .IsNot | false, .Is => true
  | _, _ => false
def notStar : Expr → Bool
  | .Starred .. => false
  | _ => true
def notSlice : Expr → Bool
  | .Slice .. => false
  | _ => true
def notSet : Expr → Bool
  | .Set .. => false
  | _ => true
def notCall0 : Expr → Bool
  | .Call (.Name _ _) [] [] _ => false
  | _ => true
def notName : Expr → Bool
  | .Name .. => false
  | _ => true
def notComp : Expr → Bool
  | .ListComp .. | .SetComp .. | .DictComp .. => false
  | _ => true
def notTup : Expr → Bool
  | .Tuple .. => false
  | _ => true
def okTy (ck : Ck) : Ty → Expr → Bool
  | .own c, .Name x _ => decide (ck.cls[c]? = some x) && glB ck.sc x && nmOk x
  | t, .Name x _ => decide (x = tyName t) && decide (x ∈ ck.bl) && glB ck.sc x && nmOk x
  | _, _ => false
def okTyL (ck : Ck) : List Ty → List Expr → Bool
  | [], [] => true
  | t :: r, e :: es => okTy ck t e && notStar e && okTyL ck r es
  | _, _ => false
def okTys (ck : Ck) (ts : List Ty) (e : Expr) : Bool := match ts, e with
  | [t], .Name x p => okTy ck t (.Name x p)
  | t :: r, .Tuple es _ _ => okTyL ck (t :: r) es && decide ((t :: r).length ≤ 1000)
  | _, _ => false
def E.isNon : E → Bool
  | .non => true
  | _ => false
def ownOf (ck : Ck) (vs : List Nat) : List (Str × Nat) := vs.map fun v => (ck.N[v]?.getD Str.empty, v)
/-- expressions that make a list of their own -/
def E.ownK : E → Bool
  | .lst _ | .comp .. | .lrg false _ | .rev _ => true
  | .bi .list (.cons _ .nil) | .bi .sorted (.cons _ .nil) => true
  | _ => false
def plainT : Expr → Bool
  | .UnaryOp .. | .BoolOp .. | .IfExp .. | .Compare .. => false
  | _ => true
/-- may stand where a truth is asked -/
def E.tOk : E → Bool
  | .ifx .. => false
  | _ => true
def Es.tOk : Es → Bool
  | .nil => true
  | .cons x r => x.tOk && r.tOk
def kwN (kws : List Keyword) : List Str := kws.filterMap (·.arg)
mutual
def okE (ck : Ck) : E → Expr → Bool
  | .var i, .Name x _ => decide (ck.N[i]? = some x) && visB ck.sc x && nmOk x
  | .int n, .Constant (.int m) _ _ => decide (n = m)
  | .str z, .Constant (.str y) _ _ => decide (z = y)
  | .bl b, .Constant (.bool c) _ _ => b == c
  | .non, .Constant .none _ _ => true
  | .gint g n, .Name x _ => decide (g = x) && decide ((x, n) ∈ ck.gi) && glB ck.sc x && nmOk x
  | .gcls c, .Name x _ => decide (ck.cls[c]? = some x) && glB ck.sc x && nmOk x
  | .tup es, .Tuple xs _ _ => okEs ck es xs && decide (xs.length ≤ 1000)
  | .lst es, .List xs _ => okEs ck es xs && decide (xs.length ≤ 1000)
  | .bin o a b, .BinOp l op r _ => opIs o op && okE ck a l && okE ck b r
  | .neg a, .UnaryOp .USub x _ => okE ck a x
  | .cmp o a b, .Compare l [op] [r] _ => copIs o op && !behindInMarks op r && okE ck a l && okE ck b r
  | .isc ng a k, .Compare l [op] [r] _ => iscIs ng op && !behindInMarks op r && okE ck a l && okE ck k r
  | .chain o o' a b c, .Compare l [op, op'] [r, r'] _ => copIs o op && copIs o' op' && !lastMarks [op, op'] [r, r'] && okE ck a l && okE ck b r && okE ck c r'
  | .and es, .BoolOp .And xs _ => okEs ck es xs && !xs.isEmpty && es.tOk
  | .or es, .BoolOp .Or xs _ => okEs ck es xs && !xs.isEmpty && es.tOk
  | .not a, .UnaryOp .Not x _ => okE ck a x && a.tOk
  | .ifx c a b, .IfExp t x y _ => okE ck c t && okE ck a x && okE ck b y && c.tOk
  | .idx a i, .Subscript v s _ => notSlice s && okE ck a v && okE ck i s
  | .slc a lo hi, .Subscript v (.Slice l u none _) _ => okE ck a v && okO ck lo l && okO ck hi u
  | .rev a, .Subscript v (.Slice none none (some (.UnaryOp .USub (.Constant (.int 1) _ _) _)) _) _ => okE ck a v
  | .fld a f, .Attribute v n _ => decide (ck.nm[f]? = some n) && notCall0 v && okE ck a v
  | .call f es ds, .Call (.Name x _) args [] _ => decide (ck.fns[f]? = some (some x)) && decide (ds ∈ (ck.dfl[f]?.getD [])) && glB ck.sc x && nmOk x && okEs ck es args
  | .callk f es ks ix, .Call (.Name x _) args kws _ => decide (ck.fns[f]? = some (some x)) && decide ((f, args.length, kwN kws, ix) ∈ ck.kbs) && glB ck.sc x && nmOk x && okEs ck es args && okKs ck ks kws
  | .new c f es, .Call (.Name x _) args [] _ => decide (ck.cls[c]? = some x) && decide (ck.inits[c]? = some f) && decide (f < ck.fns.length) && glB ck.sc x && nmOk x && !args.isEmpty && okEs ck es args
  | .bi f es, .Call (.Name x _) args [] _ => decide (x = biName f) && decide (x ∈ ck.bl) && glB ck.sc x && !args.isEmpty && okEs ck es args
  | .lrg false es, .Call (.Name x _) [.Call (.Name y _) args [] _] [] _ => decide (x = "list") && decide (y = "range") && decide (x ∈ ck.bl) && decide (y ∈ ck.bl) && glB ck.sc x && glB ck.sc y && okEs ck es args && (args.length == 1 || args.length == 2)
  | .isi a ts, .Call (.Name x _) [v, c] [] _ => decide (x = "isinstance") && decide (x ∈ ck.bl) && glB ck.sc x && okTys ck ts c && notStar v && notStar c && okE ck a v
  | .mt m a es, .Call (.Attribute o n apos) args [] cpos => decide (n = mtName m) && notCall0 o && (apos.endLine == cpos.line) && okE ck a o && okEs ck es args && decide (args.length < 29) && (!args.isEmpty || decide (n = "pop"))
  | .comp vs t it cs e, .ListComp elt [⟨tg, iter, ifs, 0⟩] scope _ => okI ck it tg iter && blkC ck.N ck.sc scope (ownOf ck vs) && okT (ck.blk scope) t tg && t.nms.all (fun i => decide (i ∈ vs)) && okEs (ck.blk scope) cs ifs && cs.tOk && decide (ifs.length ≤ 1) && okE (ck.blk scope) e elt && notSet iter
  | .gal x, e => okE ck x e && (x.ownK && plainT e)
  | _, _ => false
def okEs (ck : Ck) : Es → List Expr → Bool
  | .nil, [] => true
  | .cons x r, e :: es => okE ck x e && notStar e && okEs ck r es
  | _, _ => false
def okKs (ck : Ck) : Es → List Keyword → Bool
  | .nil, [] => true
  | .cons x r, ⟨some _, e, _⟩ :: kws => okE ck x e && okKs ck r kws
  | _, _ => false
def okO (ck : Ck) : Es → Option Expr → Bool
  | .nil, none => true
  | .cons x .nil, some e => okE ck x e
  | _, _ => false
def okI (ck : Ck) : It → Expr → Expr → Bool
  | .seq x, _, e => okE ck x e && notSet e
  | .rng es, _, .Call (.Name x _) args [] _ => decide (x = "range") && decide (x ∈ ck.bl) && glB ck.sc x && okEs ck es args && (args.length == 1 || args.length == 2 || args.length == 3)
  | .enum x, .Tuple _ _ _, .Call (.Name y _) [e] [] _ => decide (y = "enumerate") && decide (y ∈ ck.bl) && glB ck.sc y && okE ck x e && notStar e
  | _, _, _ => false
def okT (ck : Ck) : Tg → Expr → Bool
  | .nm i, .Name x _ => decide (ck.N[i]? = some x) && locB ck x
  | .tup ts, .Tuple es _ _ => okTgs ck ts es
  | .sub a i, .Subscript o ix _ => notSlice ix && okE ck a o && okE ck i ix
  | _, _ => false
def okTgs (ck : Ck) : Tgs → List Expr → Bool
  | .nil, [] => true
  | .cons t r, e :: es => okT ck t e && notStar e && okTgs ck r es
  | _, _ => false
end
def E.isComp : E → Bool
  | .comp .. => true
  | _ => false
/-- a comprehension stored under a name on its own line -/
def okLc (ck : Ck) (y : Str) (py : Pos) : Expr → Bool
  | .ListComp _ _ scope pos => lcB ck.sc y && (py.line == pos.line) && !(scope.names.any fun (n, k) => n == y && (k == .local || k == .cell))
  | _ => false
/-- no names that change places -/
def notLoc (sc : Scope) : Expr → Bool
  | .Name x _ => !lcB sc x
  | _ => true
def noSwap (sc : Scope) : Expr → Expr → Bool
  | .Tuple ts _ _, .Tuple vs _ _ => !(ts.length == 2 || ts.length == 3) || vs.length != ts.length || (vs.all notStar && vs.all (foldedForSure 8)) || (vs.all notStar && ts.any (notLoc sc))
  | .List _ _, .Tuple _ _ _ => false
  | _, _ => true
mutual
def okS (ck : Ck) : S → Stmt → Bool
  | .asg t x, .Assign [tg] e _ => (match t, tg with
    | .fld o f, .Attribute oe n _ => decide (ck.nm[f]? = some n) && okE ck o oe && okE ck x e && notComp e
    | .nm i, .Name y py => decide (ck.N[i]? = some y) && locB ck y && okE ck x e && (notComp e || (x.isComp && okLc ck y py e))
    | t, tg => okT ck t tg && notStar tg && okE ck x e && notComp e && noSwap ck.sc tg e)
  | .aown i x, .Assign [.Name y py] e _ => decide (ck.N[i]? = some y) && locB ck y && x.ownK && okE ck x e && (notComp e || (x.isComp && okLc ck y py e))
  | .par i j u v, .Assign [.Tuple [.Name x px, .Name y py] _ _] (.Tuple [a, b] _ _) _ => decide (ck.N[i]? = some x) && decide (ck.N[j]? = some y) && decide (i ≠ j) && lcB ck.sc x && lcB ck.sc y && okE ck u a && okE ck v b && notStar a && notStar b && (px.line == py.line) && !(([a, b] : List Expr).all (foldedForSure 8)) && !(([a, b] : List Expr).all (constantsAlone 8)) && !(x == y)
  | .expr x, .Expr e _ => okE ck x e && notComp e
  | .ret x, .Return (some e) _ => okE ck x e
  | .retn, .Return none _ => true
  | .ite c a b, .If e as bs _ => okE ck c e && okSs ck a as && okSs ck b bs && c.tOk
  | .fors t it b, .For tg iter body [] _ => okI ck it tg iter && okT ck t tg && okSs ck b body && notSet iter
  | .whl _ c b, .While e body [] _ => okE ck c e && okSs ck b body && c.tOk
  | .pas, .Pass _ => true
  | .brk, .Break _ => true
  | .cnt, .Continue _ => true
  | .doc, .Expr (.Constant (.str _) _ _) _ => true
  | .never, _ => true
  | _, _ => false
def okSs (ck : Ck) : Ss → List Stmt → Bool
  | .nil, [] => true
  | .cons s r, st :: sts => okS ck s st && okSs ck r sts
  | _, _ => false
end
end Dn

/-! PyMain: what the check passes does what the small language says. -/
namespace Dn
open PySem L2
/-- the program's static part -/
structure Sta where
  T : Tab
  G : Gm
  k : Nat
  nm : Nat → Str
/-- where one stands -/
structure XOk (Z : Sta) (ck : Ck) (W : WX) (X : Cx) : Prop where
  hN : X.N = ck.N
  nd : X.N.Nodup
  sc : X.env.scope = ck.sc
  K : X.K = Z.G.K
  calm : X.calm = true
  tk : Takes X W
  room : Room Z.k X.A
  fn : ∀ x, ck.fc.lookup x = some .cell → X.fn x = true
  gi : ∀ x i, (x, i) ∈ ck.gi → ∃ t, X.mg x = some (.int i t)
  bl : ∀ x, x ∈ ck.bl → X.mg x = none
  calls : ∀ (f : Nat) x ds, ck.fns[f]? = some (some x) → ds ∈ (ck.dfl[f]?.getD []) → CallOk X Z.T Z.G Z.k f x ds
  news : ∀ (c f : Nat) x, ck.cls[c]? = some x → ck.inits[c]? = some f → f < ck.fns.length → c < Z.G.n ∧ ∀ j, Z.k = j + 1 → NewOk X Z.T Z.G j c f x
  cls : ∀ (c : Nat) x, ck.cls[c]? = some x → X.mg x = some (.ref (Z.G.C c)) ∧ c < Z.G.n
  kps : ∀ (c f : Nat) x, ck.cls[c]? = some x → ck.inits[c]? = some f → PySem.W.keepIn X.K (.ref (Z.G.C c)) = true
  ok : GOk Z.G
  fnm : FNm Z.T Z.G Z.nm
  nms : ∀ (f : Nat) x, ck.nm[f]? = some x → Z.nm f = x
  kcalls : ∀ (f n : Nat) x ks ix, ck.fns[f]? = some (some x) → (f, n, ks, ix) ∈ ck.kbs → KwOk X Z.T Z.G Z.k f x n ks ix
abbrev Sta.O (Z : Sta) : Orc := orc Z.T Z.k
section
variable {Z : Sta} {ck : Ck} {W : WX} {X : Cx}
theorem XOk.units (xo : XOk Z ck W X) : X.A.units + 64 < cLine := xo.room.units
theorem XOk.vis (xo : XOk Z ck W X) {x : Str} (h : visB ck.sc x = true) : Vis X.env.scope x := by
  rw [xo.sc]
  unfold visB at h
  split at h
  · exact .inl (by assumption)
  · exact .inr (.inl (by assumption))
  · exact .inr (.inr (by assumption))
  · cases h
theorem XOk.loc (xo : XOk Z ck W X) {x : Str} (h : locB ck x = true) : Loc X.env.scope x ∧ (X.fn x = true ∨ X.env.scope.names.lookup x = some .local) := by
  unfold locB at h
  split at h
  · rename_i e
    rw [← xo.sc] at e
    exact ⟨.inl e, .inr e⟩
  · rename_i e
    rw [← xo.sc] at e
    split at h
    · rename_i e2; exact ⟨.inr e, .inl (xo.fn _ e2)⟩
    · cases h
  · cases h
theorem XOk.lc (xo : XOk Z ck W X) {x : Str} (h : lcB ck.sc x = true) : X.env.scope.names.lookup x = some .local := by
  unfold lcB at h
  rw [xo.sc]
  split at h
  · assumption
  · cases h
theorem XOk.gl (xo : XOk Z ck W X) {x : Str} (h : glB ck.sc x = true) : Gl X x := by
  show X.env.scope.names.lookup x = _
  rw [xo.sc]
  unfold glB at h
  split at h
  · assumption
  · cases h
theorem nm_ok {x : Str} (h : nmOk x = true) : (x == ("__debug__" : Str)) = false ∧ (x == ("__classdict__" : Str)) = false := by
  unfold nmOk at h
  simpa using h
theorem ne_debug {x y : Str} (h : x = y) (hy : (y == ("__debug__" : Str)) = false) : (x == ("__debug__" : Str)) = false := by rw [h]; exact hy
theorem star_cons {e : Expr} {es : List Expr} {env : Env} (h : notStar e = true) : starEach (e :: es) env = (false, eval e env) :: starEach es env := by
  cases e <;> first | rfl | cases h
theorem assignEach_cons {e : Expr} {es : List Expr} {env : Env} (h : notStar e = true) : assignEach (e :: es) env = (false, assign e env) :: assignEach es env := by
  cases e <;> first | rfl | cases h
theorem comp_swaps {e : Expr} {t : Option Expr} {l : Nat} {env : Env} (h : notComp e = true) : swapsWith e t l env = pure false := by
  cases e <;> first | rfl | cases h
theorem set_fold {e : Expr} {env : Env} (h : notSet e = true) : ∀ x, foldedSetIterable e env x = pure x := by
  intro x
  cases e <;> first | rfl | cases h
theorem tup_swaps {tg e : Expr} {env : Env} (h : notTup e = true) : swappedStores [tg] e env = pure none := by
  cases e <;> first | (cases h; done) | (cases tg <;> rfl)
theorem base_ok {o : Expr} {a : Str} {env : Env} {w : Sem Value} (h : notCall0 o = true) : attributeBase o a env w = w := by
  unfold attributeBase
  split
  · cases h
  · rfl
/-- no star among the arguments -/
theorem okEs_star : ∀ {r : Es} {es : List Expr}, okEs ck r es = true → ∀ pos env, (backTo pos (starEach es env)).any (·.1) = false ∧ (backTo pos (starEach es env)).all (fun x => !x.1) = true
  | .nil, [], _, _, _ => ⟨rfl, rfl⟩
  | .nil, _ :: _, h, _, _ => by simp [okEs] at h
  | .cons _ _, [], h, _, _ => by simp [okEs] at h
  | .cons x r, e :: es, h, pos, env => by
    simp only [okEs, Bool.and_eq_true] at h
    obtain ⟨h1, h2⟩ := okEs_star h.2 pos env
    rw [star_cons h.1.2]
    unfold backTo at h1 h2 ⊢
    simp only [List.map_cons, List.any_cons, List.all_cons, h1, h2]
    exact ⟨rfl, rfl⟩
theorem nil_or {α : Type} : ∀ l : List α, l = [] ∨ ∃ a r, l = a :: r
  | [] => .inl rfl
  | a :: r => .inr ⟨a, r, rfl⟩
theorem okKs_ok : ∀ {r : Es} {kws : List Keyword}, okKs ck r kws = true → ∀ pos env, (backToKw pos (keywordEach kws env)).all (·.1.isSome) = true ∧ (backToKw pos (keywordEach kws env)).filterMap (·.1) = kwN kws ∧ (backToKw pos (keywordEach kws env)).any (·.1.isNone) = false
  | .nil, [], _, _, _ => ⟨rfl, rfl, rfl⟩
  | .nil, _ :: _, h, _, _ => by simp [okKs] at h
  | .cons _ _, [], h, _, _ => by simp [okKs] at h
  | .cons x r, ⟨some n, e, kp⟩ :: kws, h, pos, env => by
    simp only [okKs, Bool.and_eq_true] at h
    obtain ⟨h1, h2, h3⟩ := okKs_ok h.2 pos env
    have e : backToKw pos (keywordEach (⟨some n, e, kp⟩ :: kws) env) = (some n, do let v ← eval e env; standAt pos; pure v) :: backToKw pos (keywordEach kws env) := rfl
    rw [e]
    refine ⟨by rw [List.all_cons, h1]; rfl, ?_, by rw [List.any_cons, h3]; rfl⟩
    rw [List.filterMap_cons, h2]; rfl
  | .cons x r, ⟨none, e, kp⟩ :: kws, h, _, _ => by simp [okKs] at h
theorem okKs_len : ∀ {r : Es} {kws : List Keyword}, okKs ck r kws = true → (kwN kws).length = kws.length
  | .nil, [], _ => rfl
  | .nil, _ :: _, h => by simp [okKs] at h
  | .cons _ _, [], h => by simp [okKs] at h
  | .cons x r, ⟨some n, e, kp⟩ :: kws, h => by
    simp only [okKs, Bool.and_eq_true] at h
    show (n :: kwN kws).length = _
    rw [List.length_cons, okKs_len h.2]; rfl
  | .cons x r, ⟨none, e, kp⟩ :: kws, h => by simp [okKs] at h
theorem okEs_head {r : Es} {e : Expr} {es : List Expr} (h : okEs ck r (e :: es) = true) : notStar e = true ∧ ∃ x q, r = .cons x q ∧ okE ck x e = true ∧ okEs ck q es = true := by
  cases r with
  | nil => simp [okEs] at h
  | cons x q =>
    simp only [okEs, Bool.and_eq_true] at h
    exact ⟨h.1.2, x, q, rfl, h.1.1, h.2⟩
/-- in a comprehension's block -/
theorem XOk.blk (xo : XOk Z ck W X) (s : Shared) (H : Hp) {scope : Scope} (C : Addr) (cl : List (Str × Addr)) (fp : List Addr) : XOk Z (ck.blk scope) W0 (X.blk s H scope (compEnvC scope cl C X.env) fp) where
  hN := xo.hN
  nd := xo.nd
  sc := by show relabel scope X.env = relab scope ck.sc; rw [← xo.sc]; rfl
  K := xo.K
  calm := xo.calm
  tk := takes0
  room := xo.room
  fn := fun x h => beq_iff_eq.mpr h
  gi := xo.gi
  bl := xo.bl
  calls := fun f x ds h1 h2 => ⟨(xo.calls f x ds h1 h2).ex⟩
  news := fun c f x h1 h2 h3 => ⟨(xo.news c f x h1 h2 h3).1, fun j hj => ⟨((xo.news c f x h1 h2 h3).2 j hj).ex⟩⟩
  cls := xo.cls
  kps := xo.kps
  ok := xo.ok
  fnm := xo.fnm
  nms := xo.nms
  kcalls := fun f n x ks ix h1 h2 => ⟨(xo.kcalls f n x ks ix h1 h2).ex⟩
theorem opIs_eq {o : Op2} {op : Operator} (h : opIs o op = true) : op = opOf o := by cases o <;> cases op <;> first | rfl | cases h
theorem copIs_eq {o : COp} {op : CmpOp} (h : copIs o op = true) : op = copOf o := by cases o <;> cases op <;> first | rfl | cases h
theorem iscIs_eq {o : Bool} {op : CmpOp} (h : iscIs o op = true) : op = (if o then .IsNot else .Is) := by cases o <;> cases op <;> first | rfl | cases h
theorem XOk.ty (xo : XOk Z ck W X) {t : Ty} {e : Expr} (h : okTy ck t e = true) : PE X e (tC (clsV Z.G t)) ∧ t.okN Z.G.n = true := by
  cases e with
  | Name x p =>
    cases t with
    | own c =>
      simp only [okTy, Bool.and_eq_true, decide_eq_true_eq] at h
      obtain ⟨m, hn⟩ := xo.cls c x h.1.1
      exact ⟨pe_glob (xo.gl h.1.2) m rfl (nm_ok h.2).1, by simpa [Ty.okN] using hn⟩
    | int =>
      simp only [okTy, Bool.and_eq_true, decide_eq_true_eq] at h
      obtain ⟨⟨⟨h1, h2⟩, h3⟩, h4⟩ := h
      have hx := boot_ty (G := Z.G) .int (fun c q => nomatch q)
      subst h1
      exact ⟨pe_bltn (xo.gl h3) (xo.bl _ h2) hx.1 hx.2.1 hx.2.2.1 (nm_ok h4).1, rfl⟩
    | bool =>
      simp only [okTy, Bool.and_eq_true, decide_eq_true_eq] at h
      obtain ⟨⟨⟨h1, h2⟩, h3⟩, h4⟩ := h
      have hx := boot_ty (G := Z.G) .bool (fun c q => nomatch q)
      subst h1
      exact ⟨pe_bltn (xo.gl h3) (xo.bl _ h2) hx.1 hx.2.1 hx.2.2.1 (nm_ok h4).1, rfl⟩
    | str =>
      simp only [okTy, Bool.and_eq_true, decide_eq_true_eq] at h
      obtain ⟨⟨⟨h1, h2⟩, h3⟩, h4⟩ := h
      have hx := boot_ty (G := Z.G) .str (fun c q => nomatch q)
      subst h1
      exact ⟨pe_bltn (xo.gl h3) (xo.bl _ h2) hx.1 hx.2.1 hx.2.2.1 (nm_ok h4).1, rfl⟩
    | tuple =>
      simp only [okTy, Bool.and_eq_true, decide_eq_true_eq] at h
      obtain ⟨⟨⟨h1, h2⟩, h3⟩, h4⟩ := h
      have hx := boot_ty (G := Z.G) .tuple (fun c q => nomatch q)
      subst h1
      exact ⟨pe_bltn (xo.gl h3) (xo.bl _ h2) hx.1 hx.2.1 hx.2.2.1 (nm_ok h4).1, rfl⟩
    | list =>
      simp only [okTy, Bool.and_eq_true, decide_eq_true_eq] at h
      obtain ⟨⟨⟨h1, h2⟩, h3⟩, h4⟩ := h
      have hx := boot_ty (G := Z.G) .list (fun c q => nomatch q)
      subst h1
      exact ⟨pe_bltn (xo.gl h3) (xo.bl _ h2) hx.1 hx.2.1 hx.2.2.1 (nm_ok h4).1, rfl⟩
  | _ => cases t <;> simp [okTy] at h
theorem XOk.tyL (xo : XOk Z ck W X) : ∀ {ts : List Ty} {es : List Expr}, okTyL ck ts es = true → PA X es (tCs (ts.map (clsV Z.G))) ∧ ts.all (Ty.okN Z.G.n) = true
  | [], [], _ => ⟨cs_nil, rfl⟩
  | [], _ :: _, h => by simp [okTyL] at h
  | _ :: _, [], h => by simp [okTyL] at h
  | t :: r, e :: es, h => by
    simp only [okTyL, Bool.and_eq_true] at h
    obtain ⟨h1, h2⟩ := xo.ty h.1.1
    obtain ⟨h3, h4⟩ := xo.tyL h.2
    exact ⟨cs_cons h1 h3 (star_cons h.1.2), by simp [h2, h4]⟩

theorem if_pos_of' {A B : Prop} (h : if true = true then A else B) : A := by rw [if_pos rfl] at h; exact h
theorem if_neg_of' {A B : Prop} (h : if false = true then A else B) : B := by rw [if_neg Bool.false_ne_true] at h; exact h
/-! ### chains of comparisons -/
theorem s_chain {T : Tab} {O : Orc} {G : Gm} (hK : X.K = G.K) (hu : X.A.units + 64 < cLine) {b : Bool} {o o' : COp} {x y z : E} {e1 e2 e3 : Expr} {pos : Pos} (hm : lastMarks [copOf o, copOf o'] [e2, e3] = false) (h1 : PE X e1 (tE T O G W true x)) (h2 : PE X e2 (tE T O G W true y)) (h3 : PE X e3 (tE T O G W true z)) :
    PE X (.Compare e1 [copOf o, copOf o'] [e2, e3] pos) (tE T O G W b (.chain o o' x y z)) ∧ PT X (.Compare e1 [copOf o, copOf o'] [e2, e3] pos) (tT T O G W (.chain o o' x y z)) := by
  have key : ∀ (b : Bool) (σ : L2.St) (H : Hp) (Q : VK), Bnd H → tE T O G W b (.chain o o' x y z) σ H Q → tChain (rD2 G fun d e => (cmpD o d e).map .bl) (rD2 G fun d e => (cmpD o' d e).map .bl) (tE T O G W true x) (tE T O G W true y) (tE T O G W true z) σ H (fun v H' => Bnd H' → Q v H') := by
    intro b σ H Q bn q
    obtain ⟨P, R, s, rfl, _, S, g⟩ := q
    refine ⟨P, R, s, rfl, bn, S, (Go.bind (m := ev T O true x) (f := fun u => seq (ev T O true y) fun v => seq (opt fun s => cmpD o (view s u) (view s v)) fun c => if c then seq (ev T O true z) fun w => opt fun s => (cmpD o' (view s v) (view s w)).map D.bl else ret (D.bl false)) (Za := Zb G true) g).imp fun a H1 q1 => ?_⟩
    obtain ⟨u, R1, s1, rfl, st1, b1, S1, z1, g1⟩ := q1
    refine ⟨P, R1, s1, rfl, b1, S1, (g1.bind (Za := Zb G true)).imp fun c H2 q2 => ?_⟩
    obtain ⟨v, R2, s2, rfl, st2, b2, S2, z2, g2⟩ := q2
    obtain ⟨k, ek, g3⟩ := wpR_opt (wpR.bind g2)
    refine ⟨P, R2, σ, s2, _, _, .bl k, rfl, b2, S2, S2.view (RepB.mono st2 z1), S2.view z2, congrArg (Option.map D.bl) ek, fun x' R' h1 h2 h3 h4 => ?_⟩
    have ex : x' = .bl k := by unfold Rep at h4; exact h4
    refine ⟨k, ex, ?_⟩
    cases k with
    | true =>
      refine if_pos_of ?_
      have g4 : Go G W (seq (ev T O true z) fun w => opt fun s => (cmpD o' (view s v) (view s w)).map D.bl) (Zb G b) P R2 σ s2 Q := g3
      refine ⟨P, R', s2, rfl, h2, h3, ((g4.step h1).bind (Za := Zb G true)).imp fun d H4 q4 => ?_⟩
      obtain ⟨w, R4, s4, rfl, st4, b4, S4, z4, g5⟩ := q4
      obtain ⟨r, er, wn⟩ := g5.wn
      exact ⟨P, R4, σ, s4, _, _, r, rfl, b4, S4, S4.view (RepB.mono (h1.trans st4) z2), S4.view z4, er, fun x R' h1 h2 h3 h4 _ => wn x R' h1 h2 h3 h4⟩
    | false =>
      refine if_neg_of fun _ => ?_
      have g4 : Go G W (ret (D.bl false)) (Zb G b) P R2 σ s2 Q := g3
      exact (g4.step h1).retD h2 h3 Rep.bl.z
  refine ⟨PE.weak (pe_chain (op_cmp (G := G) o hK hu) (op_cmp (G := G) o' hK hu) h1 h2 h3 hm) fun σ H Q bn q => key b σ H Q bn q, PT.weak (pt_chain (op_cmp (G := G) o hK hu) (op_cmp (G := G) o' hK hu) h1 h2 h3 hm) fun σ H Q bn q => ?_⟩
  have q' := key true σ H _ bn q
  refine tM_imp q' fun a H1 q1 => tM_imp q1 fun c H2 q2 => ?_
  obtain ⟨P, R, σ0, s, d, e, v, e0, bn0, S, rd, re, ev, w⟩ := q2
  refine ⟨P, R, σ0, s, d, e, v, e0, bn0, S, rd, re, ev, fun x' R' h1 h2 h3 h4 => ?_⟩
  obtain ⟨k, ex, q3⟩ := w x' R' h1 h2 h3 h4
  refine ⟨k, ex, ?_⟩
  cases k with
  | true =>
    refine if_pos_of (tM_imp (if_pos_of' q3) fun d H4 q4 => ?_)
    obtain ⟨P, R, σ0, s, d, e, v, e0, bn0, S, rd, re, ev, w⟩ := q4
    exact ⟨P, R, σ0, s, d, e, v, e0, bn0, S, rd, re, ev, fun x' R' h1 h2 h3 h4 => let ⟨k, ex, q5⟩ := w x' R' h1 h2 h3 h4 h2; ⟨k, ex, fun _ => q5⟩⟩
  | false =>
    refine if_neg_of ?_
    obtain ⟨k, ex, q5⟩ := if_neg_of' q3 h2
    exact ⟨k, ex, fun _ => q5⟩
/-! ### x[i] = v as a target -/
theorem s_gsub {T : Tab} {O : Orc} {G : Gm} {x i : E} {o ix : Expr} {pos : Pos} (hn : notSlice ix = true) (ho : PE X o (tE T O G W true x)) (hi : PE X ix (tE T O G W true i)) : PG X (.Subscript o ix pos) (gT T O G W (.sub x i)) := by
  refine PG.weak (pg_sub ho hi (set_D (G := G)) fun v => by cases ix <;> first | rfl | cases hn) fun v σ H Q bn q => ?_
  obtain ⟨P, R, s, d, rfl, S, r, g⟩ := q
  have g' : wpR ((seq (ev T O true x) fun u => seq (ev T O true i) fun w => setSub u w d) s) (fun _ s' => ∀ σ' R', Stp P R R' → Bnd R'.H → SR G P R' σ' s' → Same' [] σ σ' → Q σ' R'.H) (exq G W P R) := g
  refine ⟨P, R, s, rfl, bn, S, wpR.imp (wpR.bind g') (fun u s1 k v1 R1 st1 b1 S1 z1 => ?_) fun _ _ _ k => k⟩
  refine ⟨P, R1, s1, rfl, b1, S1, wpR.imp (wpR.bind k) (fun w s2 k2 v2 R2 st2 b2 S2 z2 => ?_) fun _ _ _ k => k.step st1⟩
  have k3 : wpR (setSub u w d s2) _ _ := k2
  cases e : setSub u w d s2 with
  | ok q s3 =>
    rw [e] at k3
    exact ⟨P, R2, σ, s2, u, w, d, s3, rfl, b2, S2, RepB.mono st2 z1, z2, r.mono (st1.trans st2), e, fun R' h1 h2 h3 _ => k3 σ R' ((st1.trans st2).trans h1) h2 h3 (Same'.refl _ _)⟩
  | exc c a s3 =>
    exfalso
    unfold setSub at e
    split at e
    · split at e
      · exact putList_noexc e
      · cases e
    · cases e
  | bad => rw [e] at k3; exact k3.elim
end
end Dn

/-! PySnd: the check is sound. -/
namespace Dn
open PySem L2
variable {Z : Sta}
/-- an expression's part -/
structure SE (Z : Sta) (W : WX) (X : Cx) (x : E) (e : Expr) : Prop where
  pe : ∀ b, PE X e (tE Z.T Z.O Z.G W b x)
  pt : x.tOk = true → PT X e (tT Z.T Z.O Z.G W x)
  po : x.ownK = true → PE X e (tO Z.G W (evOwn Z.T Z.O x))
theorem SE.plain {W : WX} {X : Cx} {x : E} {e : Expr} (h : ∀ b, PE X e (tE Z.T Z.O Z.G W b x)) (he : ∀ whole, isTrue e X.env whole = (do let v ← whole; standAt e.pos; holding [v] (truthy v))) (hk : x.ownK = false) : SE Z W X x e :=
  ⟨h, fun _ => s_test (h true) he, fun q => by rw [hk] at q; cases q⟩
theorem SE.own {W : WX} {X : Cx} {x : E} {e : Expr} (h : PE X e (tO Z.G W (evOwn Z.T Z.O x))) (he : ∀ whole, isTrue e X.env whole = (do let v ← whole; standAt e.pos; holding [v] (truthy v))) (hx : ∀ b, ev Z.T Z.O b x = seq (evOwn Z.T Z.O x) fun ds => ret (.lst ds)) : SE Z W X x e :=
  ⟨fun b => s_frozen h (hx b), fun _ => s_test (s_frozen h (hx true)) he, fun _ => h⟩
theorem len_ge {α : Type} {xs : List α} (h : (!xs.isEmpty) = true) : ∃ a r, xs = a :: r := by
  cases xs with
  | nil => cases h
  | cons a r => exact ⟨a, r, rfl⟩
theorem okEs_len {ck : Ck} : ∀ {r : Es} {es : List Expr}, okEs ck r es = true → es.length = 1 → ∃ x e, r = .cons x .nil ∧ es = [e]
  | .cons x .nil, [e], _, _ => ⟨x, e, rfl, rfl⟩
  | .nil, [], _, h => by simp at h
  | .nil, _ :: _, h, _ => by simp [okEs] at h
  | .cons _ _, [], h, _ => by simp [okEs] at h
  | .cons x (.cons y r), [e], h, _ => by simp [okEs] at h
  | .cons x r, e :: e' :: es, _, h => by simp at h
theorem okEs_len2 {ck : Ck} : ∀ {r : Es} {es : List Expr}, okEs ck r es = true → es.length = 2 → ∃ x y e e', r = .cons x (.cons y .nil) ∧ es = [e, e']
  | .cons x r, e :: es, h, hl => by
    have h' : okEs ck r es = true := by simp only [okEs, Bool.and_eq_true] at h; exact h.2
    obtain ⟨y, e', rfl, rfl⟩ := okEs_len h' (by simpa using hl)
    exact ⟨x, y, e, e', rfl, rfl⟩
  | .nil, [], _, h => by simp at h
  | .nil, _ :: _, h, _ => by simp [okEs] at h
  | .cons _ _, [], h, _ => by simp [okEs] at h
theorem okEs_len3 {ck : Ck} : ∀ {r : Es} {es : List Expr}, okEs ck r es = true → es.length = 3 → ∃ x y z e e' e2, r = .cons x (.cons y (.cons z .nil)) ∧ es = [e, e', e2]
  | .cons x r, e :: es, h, hl => by
    have h' : okEs ck r es = true := by simp only [okEs, Bool.and_eq_true] at h; exact h.2
    obtain ⟨y, z, e', e2, rfl, rfl⟩ := okEs_len2 h' (by simpa using hl)
    exact ⟨x, y, z, e, e', e2, rfl, rfl⟩
  | .nil, [], _, h => by simp at h
  | .nil, _ :: _, h, _ => by simp [okEs] at h
  | .cons _ _, [], h, _ => by simp [okEs] at h
/-- all of a list of expressions -/
inductive SEs (Z : Sta) (W : WX) (X : Cx) : Es → List Expr → Prop where
  | nil : SEs Z W X .nil []
  | cons {x : E} {r : Es} {e : Expr} {es : List Expr} (h : SE Z W X x e) (hs : notStar e = true) (hr : SEs Z W X r es) : SEs Z W X (.cons x r) (e :: es)
theorem SEs.pa {W : WX} {X : Cx} : ∀ {r : Es} {es : List Expr}, SEs Z W X r es → PA X es (tA Z.T Z.O Z.G W es.length r) ∧ PA X es (tAB Z.T Z.O Z.G W es.length r)
  | _, _, .nil => ⟨s_nil, s_nilB⟩
  | _, _, .cons h hs hr => ⟨s_cons (h.pe false) hr.pa.1 (star_cons hs), s_consB (h.pe true) hr.pa.2 (star_cons hs)⟩
theorem tOk_cons {x : E} {r : Es} (h : (Es.cons x r).tOk = true) : x.tOk = true ∧ r.tOk = true := by simpa [Es.tOk] using h
theorem SEs.and {W : WX} {X : Cx} {pos : Pos} : ∀ {r : Es} {es : List Expr}, SEs Z W X r es → es ≠ [] → r.tOk = true → PE X (.BoolOp .And es pos) (tAn Z.T Z.O Z.G W r) ∧ PW X (.BoolOp .And es pos) (tAnT Z.T Z.O Z.G W r)
  | _, _, .nil, h, _ => (h rfl).elim
  | _, _, .cons h _ .nil, _, t => ⟨s_and1 (h.pe true), s_and1T (h.pt (tOk_cons t).1)⟩
  | _, _, .cons h _ (.cons h2 hs2 hr), _, t => have k := SEs.and (.cons h2 hs2 hr) (by simp) (tOk_cons t).2; ⟨s_and (h.pe true) k.1, s_andT (h.pt (tOk_cons t).1) k.2⟩
theorem SEs.or {W : WX} {X : Cx} {pos : Pos} : ∀ {r : Es} {es : List Expr}, SEs Z W X r es → es ≠ [] → r.tOk = true → PE X (.BoolOp .Or es pos) (tOr' Z.T Z.O Z.G W r) ∧ PW X (.BoolOp .Or es pos) (tOrT Z.T Z.O Z.G W r)
  | _, _, .nil, h, _ => (h rfl).elim
  | _, _, .cons h _ .nil, _, t => ⟨s_or1 (h.pe true), s_or1T (h.pt (tOk_cons t).1)⟩
  | _, _, .cons h _ (.cons h2 hs2 hr), _, t => have k := SEs.or (.cons h2 hs2 hr) (by simp) (tOk_cons t).2; ⟨s_or (h.pe true) k.1, s_orT (h.pt (tOk_cons t).1) k.2⟩
theorem tM_z {W : WX} {m : M D} {b : Bool} {σ : L2.St} {H : Hp} {Q : VK} (q : tM Z.G W m (Zb Z.G b) σ H Q) : tM Z.G W m (Zb Z.G false) σ H Q := by
  obtain ⟨P, R, s, e, bn, S, g⟩ := q
  exact ⟨P, R, s, e, bn, S, g.z0⟩
theorem own_map (ck : Ck) (vs : List Nat) : (ownOf ck vs).map (·.2) = vs := by
  unfold ownOf
  rw [List.map_map]
  exact List.map_id _
theorem ckE {W : WX} {X : Cx} {ck : Ck} (xo : XOk Z ck W X) {x : Str} (h : decide (x ∈ ck.bl) = true) : X.mg x = none := xo.bl x (of_decide_eq_true h)

/-- a making behind which nothing is told -/
theorem pe_makeNever {X : Cx} {C : Addr} {x : Str} {p pos : Pos} {e : Expr} {es : List Expr} {t : TA} (hg : Gl X x) (hm : X.mg x = some (.ref C)) (hk : PySem.W.keepIn X.K (.ref C) = true) (ha : PA X (e :: es) t) (hdb : (x == ("__debug__" : Str)) = false)
    (he : starEach (e :: es) X.env = (false, eval e X.env) :: starEach es X.env) (hpl : (backTo pos (starEach es X.env)).any (·.1) = false) : PE X (.Call (.Name x p) (e :: es) [] pos) (fun σ H _ => t σ H fun _ _ => False) := by
  refine ⟨fun pins s σ H Q I h => wpAny_Call_Name_kw (ld_glob I hg hm ?_ hdb)⟩
  exact PySem.W.callWith_K (h₀ := X.base) I.ok.mod.kin hk (thn (ha.run pos pins s σ H _ I h) fun us s1 ⟨vs, H1, I1, r, q⟩ => q.elim) he hpl
theorem new0 {W : WX} {X : Cx} {C : Addr} {x : Str} {p pos : Pos} {e : Expr} {es : List Expr} {c f n : Nat} {r : Es} {b : Bool} (hg : Gl X x) (hm : X.mg x = some (.ref C)) (hkp : PySem.W.keepIn X.K (.ref C) = true) (ha : PA X (e :: es) (tA Z.T Z.O Z.G W n r)) (hdb : (x == ("__debug__" : Str)) = false)
    (he : starEach (e :: es) X.env = (false, eval e X.env) :: starEach es X.env) (hpl : (backTo pos (starEach es X.env)).any (·.1) = false) (hk : Z.k = 0) : PE X (.Call (.Name x p) (e :: es) [] pos) (tE Z.T Z.O Z.G W b (.new c f r)) := by
  refine PE.weak (pe_makeNever hg hm hkp ha hdb he hpl) fun σ H Q bn q => ?_
  obtain ⟨P, R, s, rfl, _, S, g⟩ := q
  refine ⟨P, R, s, rfl, bn, S, (Go.bind (m := evs Z.T Z.O r) (f := fun xs => fun s => ofRC (orc Z.T Z.k f (some c) xs s.sto) s.env) (Za := Zs Z.G n) g).imp fun vs H1 q1 => ?_⟩
  obtain ⟨xs, R1, s1, rfl, st1, b1, S1, z1, g1⟩ := q1
  have g' : wpR (ofRC (orc Z.T Z.k f (some c) xs s1.sto) s1.env) _ (exq Z.G W P R1) := g1
  rw [hk] at g'
  exact g'
theorem lrg_ev {es : Es} {b : Bool} : ev Z.T Z.O b (.lrg false es) = seq (evOwn Z.T Z.O (.lrg false es)) fun ds => ret (.lst ds) := by
  show seq (evBs Z.T Z.O es) (fun xs => opt fun _ => (rngList xs).map (if false = true then D.tup else D.lst)) = seq (seq (evBs Z.T Z.O es) fun xs => opt fun _ => rngList xs) fun ds => ret (.lst ds)
  rw [seq_assoc]
  congr 1
  funext xs
  funext s
  unfold seq opt
  cases rngList xs <;> rfl
theorem comp_ev {vs : List Nat} {t : Tg} {it : It} {cs : Es} {e : E} {b : Bool} : ev Z.T Z.O b (.comp vs t it cs e) = seq (evOwn Z.T Z.O (.comp vs t it cs e)) fun ds => ret (.lst ds) := by
  show seq (evIt Z.T Z.O it) _ = seq (seq (evIt Z.T Z.O it) _) _
  rw [seq_assoc]
/-- an expression whose truth is its value's -/
theorem plainT_ok {e : Expr} {env : Env} (h : plainT e = true) : ∀ whole, isTrue e env whole = (do let v ← whole; standAt e.pos; holding [v] (truthy v)) := by
  intro w
  cases e <;> first | rfl | cases h
mutual
theorem sndE : ∀ (x : E) (ck : Ck) (e : Expr) (W : WX) (X : Cx), okE ck x e = true → XOk Z ck W X → SE Z W X x e
  | .var i, ck, e0, W, X, h, xo => by
    unfold okE at h
    split at h <;> (try (cases h; done)) <;> (try (rename_i heq; cases heq; done))
    rename_i i' x pos heq
    cases heq
    simp only [Bool.and_eq_true, decide_eq_true_eq] at h
    obtain ⟨⟨h1, h2⟩, h3⟩ := h
    exact .plain (fun b => s_var (by rw [xo.hN]; exact h1) (xo.vis h2) (nm_ok h3).1 (nm_ok h3).2) (by intro _; rfl) rfl
  | .int n, ck, e0, W, X, h, xo => by
    unfold okE at h
    split at h <;> (try (cases h; done)) <;> (try (rename_i heq; cases heq; done))
    rename_i n' m j pos heq
    cases heq
    obtain rfl := of_decide_eq_true h
    exact .plain (fun b => s_const (v := .int n) pe_int rfl fun _ => Rep.int) (by intro _; rfl) rfl
  | .str n, ck, e0, W, X, h, xo => by
    unfold okE at h
    split at h <;> (try (cases h; done)) <;> (try (rename_i heq; cases heq; done))
    rename_i n' m j pos heq
    cases heq
    obtain rfl := of_decide_eq_true h
    exact .plain (fun b => s_const (v := .str n) pe_str rfl fun _ => Rep.str) (by intro _; rfl) rfl
  | .bl n, ck, e0, W, X, h, xo => by
    unfold okE at h
    split at h <;> (try (cases h; done)) <;> (try (rename_i heq; cases heq; done))
    rename_i n' m j pos heq
    cases heq
    obtain rfl := beq_iff_eq.mp h
    exact .plain (fun b => s_const (v := .bl n) pe_bl rfl fun _ => Rep.bl) (by intro _; rfl) rfl
  | .non, ck, e0, W, X, h, xo => by
    unfold okE at h
    split at h <;> (try (cases h; done)) <;> (try (rename_i heq; cases heq; done))
    exact .plain (fun b => s_const (v := .non) pe_non rfl fun _ => Rep.non) (by intro _; rfl) rfl
  | .gint g n, ck, e0, W, X, h, xo => by
    unfold okE at h
    split at h <;> (try (cases h; done)) <;> (try (rename_i heq; cases heq; done))
    rename_i g' n' x pos heq
    cases heq
    simp only [Bool.and_eq_true, decide_eq_true_eq] at h
    obtain ⟨⟨⟨h0, h1⟩, h2⟩, h3⟩ := h
    obtain ⟨t, ht⟩ := xo.gi _ _ h1
    exact .plain (fun b => s_const (v := .int n) (pe_glob (xo.gl h2) ht ⟨t, rfl⟩ (nm_ok h3).1) rfl fun _ => Rep.int) (by intro _; rfl) rfl
  | .gcls c, ck, e0, W, X, h, xo => by
    unfold okE at h
    split at h <;> (try (cases h; done)) <;> (try (rename_i heq; cases heq; done))
    rename_i c' x pos heq
    cases heq
    simp only [Bool.and_eq_true, decide_eq_true_eq] at h
    obtain ⟨⟨h1, h2⟩, h3⟩ := h
    exact .plain (fun b => s_const (v := .ref (Z.G.C c)) (pe_glob (xo.gl h2) (xo.cls _ _ h1).1 rfl (nm_ok h3).1) rfl fun _ => Rep.cls) (by intro _; rfl) rfl
  | .tup es, ck, e0, W, X, h, xo => by
    unfold okE at h
    split at h <;> (try (cases h; done)) <;> (try (rename_i heq; cases heq; done))
    rename_i es' xs k pos heq
    cases heq
    simp only [Bool.and_eq_true, decide_eq_true_eq] at h
    exact .plain (fun b => s_tup (sndEs es ck _ W X h.1 xo).pa.1 h.2) (by intro _; rfl) rfl
  | .lst es, ck, e0, W, X, h, xo => by
    unfold okE at h
    split at h <;> (try (cases h; done)) <;> (try (rename_i heq; cases heq; done))
    rename_i es' xs pos heq
    cases heq
    simp only [Bool.and_eq_true, decide_eq_true_eq] at h
    exact .own (sO_lst (sndEs es ck _ W X h.1 xo).pa.1 h.2) (by intro _; rfl) fun b => rfl
  | .bin o a b, ck, e0, W, X, h, xo => by
    unfold okE at h
    split at h <;> (try (cases h; done)) <;> (try (rename_i heq; cases heq; done))
    rename_i o' a' b' l op r pos heq
    cases heq
    simp only [Bool.and_eq_true, decide_eq_true_eq] at h
    obtain ⟨⟨h1, h2⟩, h3⟩ := h
    obtain rfl := opIs_eq h1
    have ha := sndE a ck _ W X h2 xo
    have hb := sndE b ck _ W X h3 xo
    exact .plain (fun q => s_bin xo.K (ha.pe true) (hb.pe true)) (by intro _; rfl) rfl
  | .neg a, ck, e0, W, X, h, xo => by
    unfold okE at h
    split at h <;> (try (cases h; done)) <;> (try (rename_i heq; cases heq; done))
    rename_i a' x pos heq
    cases heq
    have ha := sndE a ck _ W X h xo
    exact .plain (fun b => s_neg (ha.pe true)) (by intro _; rfl) rfl
  | .cmp o a b, ck, e0, W, X, h, xo => by
    unfold okE at h
    split at h <;> (try (cases h; done)) <;> (try (rename_i heq; cases heq; done))
    rename_i o' a' b' l op r pos heq
    cases heq
    simp only [Bool.and_eq_true, Bool.not_eq_true'] at h
    obtain ⟨⟨⟨h1, h2⟩, h3⟩, h4⟩ := h
    obtain rfl := copIs_eq h1
    have ha := sndE a ck _ W X h3 xo
    have hb := sndE b ck _ W X h4 xo
    exact ⟨fun q => s_cmp xo.K xo.units h2 (ha.pe true) (hb.pe true), fun _ => s_cmpT (f := fun s u v => (cmpD o (view s u) (view s v)).map .bl) (op_cmp (G := Z.G) o xo.K xo.units) h2 (ha.pe true) (hb.pe true) rfl fun P R σ s u v d a c Q bn S ra rc e w => ⟨P, R, σ, s, _, _, d, rfl, bn, S, S.view ra, S.view rc, e, w⟩, fun q => nomatch q⟩
  | .isc ng a k, ck, e0, W, X, h, xo => by
    unfold okE at h
    split at h <;> (try (cases h; done)) <;> (try (rename_i heq; cases heq; done))
    rename_i ng' a' k' l op r pos heq
    cases heq
    simp only [Bool.and_eq_true, Bool.not_eq_true'] at h
    obtain ⟨⟨⟨h1, h2⟩, h3⟩, h4⟩ := h
    obtain rfl := iscIs_eq h1
    have ha := sndE a ck _ W X h3 xo
    have hb := sndE k ck _ W X h4 xo
    refine ⟨fun q => s_isc h2 (ha.pe true) (hb.pe true), fun _ => s_cmpT (f := fun _ u v => (isD u v).map fun c => .bl (if ng then !c else c)) (op_isc (G := Z.G) ng) h2 (ha.pe true) (hb.pe true) rfl fun P R σ s u v d a c Q bn S ra rc e w => ?_, fun q => nomatch q⟩
    obtain ⟨k, ek, rfl⟩ := Option.map_eq_some_iff.mp e
    exact ⟨P, R, σ, s, u, v, k, rfl, bn, S, ra, rc, ek, w⟩
  | .chain o o' a b c, ck, e0, W, X, h, xo => by
    unfold okE at h
    split at h <;> (try (cases h; done)) <;> (try (rename_i heq; cases heq; done))
    rename_i p1 p2 a' b' c' l op op' r r' pos heq
    cases heq
    simp only [Bool.and_eq_true, Bool.not_eq_true'] at h
    obtain ⟨⟨⟨⟨⟨h1, h2⟩, h3⟩, h4⟩, h5⟩, h6⟩ := h
    obtain rfl := copIs_eq h1
    obtain rfl := copIs_eq h2
    have ha := sndE a ck _ W X h4 xo
    have hb := sndE b ck _ W X h5 xo
    have hc := sndE c ck _ W X h6 xo
    exact ⟨fun q => (s_chain xo.K xo.units h3 (ha.pe true) (hb.pe true) (hc.pe true)).1, fun _ => (s_chain (b := true) xo.K xo.units h3 (ha.pe true) (hb.pe true) (hc.pe true)).2, fun q => nomatch q⟩
  | .and es, ck, e0, W, X, h, xo => by
    unfold okE at h
    split at h <;> (try (cases h; done)) <;> (try (rename_i heq; cases heq; done))
    rename_i es' xs pos heq
    cases heq
    simp only [Bool.and_eq_true] at h
    obtain ⟨⟨h1, h2⟩, h3⟩ := h
    obtain ⟨a, r, rfl⟩ := len_ge h2
    have k := (sndEs es ck _ W X h1 xo).and (pos := pos) (by simp) h3
    exact ⟨fun q => PE.weak k.1 fun σ H Q bn q => tM_imp (tM_z q) fun _ _ z _ => z, fun _ => (PT.weak k.2.pt fun σ H Q bn q => tM_imp (tM_z (b := true) q) fun _ _ ⟨c, e, z⟩ => ⟨c, e, fun _ => z⟩), fun q => nomatch q⟩
  | .or es, ck, e0, W, X, h, xo => by
    unfold okE at h
    split at h <;> (try (cases h; done)) <;> (try (rename_i heq; cases heq; done))
    rename_i es' xs pos heq
    cases heq
    simp only [Bool.and_eq_true] at h
    obtain ⟨⟨h1, h2⟩, h3⟩ := h
    obtain ⟨a, r, rfl⟩ := len_ge h2
    have k := (sndEs es ck _ W X h1 xo).or (pos := pos) (by simp) h3
    exact ⟨fun q => PE.weak k.1 fun σ H Q bn q => tM_imp (tM_z q) fun _ _ z _ => z, fun _ => (PT.weak k.2.pt fun σ H Q bn q => tM_imp (tM_z (b := true) q) fun _ _ ⟨c, e, z⟩ => ⟨c, e, fun _ => z⟩), fun q => nomatch q⟩
  | .not a, ck, e0, W, X, h, xo => by
    unfold okE at h
    split at h <;> (try (cases h; done)) <;> (try (rename_i heq; cases heq; done))
    rename_i a' x pos heq
    cases heq
    simp only [Bool.and_eq_true] at h
    have ha := sndE a ck _ W X h.1 xo
    exact ⟨fun b => s_not (ha.pe true), fun _ => s_notT (ha.pt h.2), fun q => nomatch q⟩
  | .ifx c a b, ck, e0, W, X, h, xo => by
    unfold okE at h
    split at h <;> (try (cases h; done)) <;> (try (rename_i heq; cases heq; done))
    rename_i c' a' b' t x y pos heq
    cases heq
    simp only [Bool.and_eq_true] at h
    obtain ⟨⟨⟨h1, h2⟩, h3⟩, h4⟩ := h
    have hc := sndE c ck _ W X h1 xo
    have ha := sndE a ck _ W X h2 xo
    have hb := sndE b ck _ W X h3 xo
    exact ⟨fun q => s_ifx (hc.pt h4) (ha.pe false) (hb.pe false), fun q => (by simp [E.tOk] at q), fun q => nomatch q⟩
  | .idx a i, ck, e0, W, X, h, xo => by
    unfold okE at h
    split at h <;> (try (cases h; done)) <;> (try (rename_i heq; cases heq; done))
    rename_i a' i' v s pos heq
    cases heq
    simp only [Bool.and_eq_true] at h
    obtain ⟨⟨h1, h2⟩, h3⟩ := h
    have ha := sndE a ck _ W X h2 xo
    have hb := sndE i ck _ W X h3 xo
    exact .plain (fun q => s_idx xo.K (fun o i => by cases s <;> first | rfl | cases h1) (ha.pe true) (hb.pe true)) (by intro _; rfl) rfl
  | .slc a lo hi, ck, e0, W, X, h, xo => by
    unfold okE at h
    split at h <;> (try (cases h; done)) <;> (try (rename_i heq; cases heq; done))
    rename_i a' lo' hi' v l u p2 pos heq
    cases heq
    simp only [Bool.and_eq_true] at h
    obtain ⟨⟨h1, h2⟩, h3⟩ := h
    have ha := sndE a ck _ W X h1 xo
    exact .plain (fun q => s_slc xo.K (ha.pe true) (sndO lo ck _ W X h2 xo) (sndO hi ck _ W X h3 xo)) (by intro _; rfl) rfl
  | .rev a, ck, e0, W, X, h, xo => by
    unfold okE at h
    split at h <;> (try (cases h; done)) <;> (try (rename_i heq; cases heq; done))
    rename_i a' v k p1 p2 p3 pos heq
    cases heq
    have ha := sndE a ck _ W X h xo
    exact ⟨fun b => s_rev (ha.pe true), fun _ => s_test (s_rev (ha.pe true)) (by intro _; rfl), fun _ => sO_rev (ha.pe true)⟩
  | .fld a f, ck, e0, W, X, h, xo => by
    unfold okE at h
    split at h <;> (try (cases h; done)) <;> (try (rename_i heq; cases heq; done))
    rename_i a' f' v n pos heq
    cases heq
    simp only [Bool.and_eq_true, decide_eq_true_eq] at h
    obtain ⟨⟨h1, h2⟩, h3⟩ := h
    have ha := sndE a ck _ W X h3 xo
    obtain rfl := xo.nms f n h1
    exact .plain (fun b => s_fld xo.fnm xo.ok xo.K (base_ok h2) (ha.pe true)) (by intro _; rfl) rfl
  | .call f es ds, ck, e0, W, X, h, xo => by
    unfold okE at h
    split at h <;> (try (cases h; done)) <;> (try (rename_i heq; cases heq; done))
    rename_i f' es' ds' x p args pos heq
    cases heq
    simp only [Bool.and_eq_true] at h
    obtain ⟨⟨⟨⟨h1, h2⟩, h3⟩, h4⟩, h6⟩ := h
    rcases nil_or args with rfl | ⟨a, r, rfl⟩
    · cases es with
      | nil => exact .plain (fun b => s_callN rfl xo.tk xo.room (xo.gl h3) (xo.calls _ _ _ (of_decide_eq_true h1) (of_decide_eq_true h2)) (nm_ok h4).1) (by intro _; rfl) rfl
      | cons _ _ => simp [okEs] at h6
    obtain ⟨hs, x1, q1, rfl, _, hq⟩ := okEs_head h6
    have k := (sndEs _ ck _ W X h6 xo).pa.1
    exact .plain (fun b => s_call rfl xo.tk xo.room (xo.gl h3) (xo.calls _ _ _ (of_decide_eq_true h1) (of_decide_eq_true h2)) (nm_ok h4).1 k (star_cons hs) (okEs_star hq _ _).1) (by intro _; rfl) rfl
  | .callk f es ks ix, ck, e0, W, X, h, xo => by
    unfold okE at h
    split at h <;> (try (cases h; done)) <;> (try (rename_i heq; cases heq; done))
    rename_i f' es' ks' ix' x p args kws pos heq
    cases heq
    simp only [Bool.and_eq_true] at h
    obtain ⟨⟨⟨⟨⟨h1, h2⟩, h3⟩, h4⟩, h5⟩, h6⟩ := h
    obtain ⟨k1, k2, k3⟩ := okKs_ok h6 pos X.env
    have hk := sndKs _ ck _ W X h6 xo
    have hn : (args = [] ∧ args.length = 0 ∧ es = .nil) ∨ ∃ e q, args = e :: q ∧ PA X (e :: q) (tA Z.T Z.O Z.G W args.length es) ∧ starEach (e :: q) X.env = (false, eval e X.env) :: starEach q X.env := by
      rcases nil_or args with rfl | ⟨a, r, rfl⟩
      · cases es with
        | nil => exact .inl ⟨rfl, rfl, rfl⟩
        | cons _ _ => simp [okEs] at h5
      · obtain ⟨hs, x1, q1, rfl, _, hq⟩ := okEs_head h5
        exact .inr ⟨a, r, rfl, (sndEs _ ck _ W X h5 xo).pa.1, star_cons hs⟩
    exact .plain (fun b => s_callk rfl xo.tk xo.room (xo.gl h3) (xo.kcalls _ _ _ _ _ (of_decide_eq_true h1) (of_decide_eq_true h2)) (nm_ok h4).1 hn hk (okKs_len h6).symm k1 k2 (by rw [(okEs_star h5 pos X.env).1, k3]; rfl)) (by intro _; rfl) rfl
  | .new c f es, ck, e0, W, X, h, xo => by
    unfold okE at h
    split at h <;> (try (cases h; done)) <;> (try (rename_i heq; cases heq; done))
    rename_i c' f' es' x p args pos heq
    cases heq
    simp only [Bool.and_eq_true] at h
    obtain ⟨⟨⟨⟨⟨⟨h1, h2⟩, h2'⟩, h3⟩, h4⟩, h5⟩, h6⟩ := h
    obtain ⟨a, r, rfl⟩ := len_ge h5
    obtain ⟨hs, x1, q1, rfl, _, hq⟩ := okEs_head h6
    have k := (sndEs _ ck _ W X h6 xo).pa.1
    obtain ⟨hc, nw⟩ := xo.news _ _ _ (of_decide_eq_true h1) (of_decide_eq_true h2) (of_decide_eq_true h2')
    have key : ∀ b, PE X (.Call (.Name x p) (a :: r) [] pos) (tE Z.T Z.O Z.G W b (.new c f (.cons x1 q1))) := fun b => by
      cases hk : Z.k with
      | zero => exact new0 (xo.gl h3) (xo.cls _ _ (of_decide_eq_true h1)).1 (xo.kps _ _ _ (of_decide_eq_true h1) (of_decide_eq_true h2)) k (nm_ok h4).1 (star_cons hs) (okEs_star hq _ _).1 hk
      | succ j => exact s_new (by show orc Z.T Z.k = _; rw [hk]) xo.tk (by rw [← hk]; exact xo.room) (xo.gl h3) (nw j hk) hc (nm_ok h4).1 k (star_cons hs) (okEs_star hq _ _).1
    exact .plain key (by intro _; rfl) rfl
  | .bi f es, ck, e0, W, X, h, xo => by
    unfold okE at h
    split at h <;> (try (cases h; done)) <;> (try (rename_i heq; cases heq; done))
    rename_i f' es' x p args pos heq
    cases heq
    simp only [Bool.and_eq_true] at h
    obtain ⟨⟨⟨⟨h1, h2⟩, h3⟩, h5⟩, h6⟩ := h
    obtain rfl := of_decide_eq_true h1
    obtain ⟨a, r, rfl⟩ := len_ge h5
    obtain ⟨hs, x1, q1, rfl, hx1, hq⟩ := okEs_head h6
    have k := sndEs _ ck _ W X h6 xo
    have key : ∀ b, PE X (.Call (.Name (biName f) p) (a :: r) [] pos) (tE Z.T Z.O Z.G W b (.bi f (.cons x1 q1))) := fun b => s_bi xo.K xo.calm (xo.gl h3) (ckE xo h2) k.pa.2 (star_cons hs) (okEs_star hq _ _).1
    refine ⟨key, fun _ => s_test (key true) (by intro _; rfl), fun hk => ?_⟩
    cases f <;> first | (cases hk; done) | skip
    · cases k with | cons h1' _ hr => cases hr with
      | nil => exact sO_sorted xo.K (xo.gl h3) (ckE xo h2) (h1'.pe true) (star_cons hs)
      | cons _ _ _ => cases hk
    · cases k with | cons h1' _ hr => cases hr with
      | nil => exact sO_list xo.K (xo.gl h3) (ckE xo h2) (h1'.pe true) (star_cons hs)
      | cons _ _ _ => cases hk
  | .lrg tp es, ck, e0, W, X, h, xo => by
    unfold okE at h
    split at h <;> (try (cases h; done)) <;> (try (rename_i heq; cases heq; done))
    rename_i es' x p y p2 args pos2 pos heq
    cases heq
    simp only [Bool.and_eq_true] at h
    obtain ⟨⟨⟨⟨⟨⟨⟨h1, h2⟩, h3⟩, h4⟩, h5⟩, h6⟩, h7⟩, h8⟩ := h
    obtain rfl := of_decide_eq_true h1
    obtain rfl := of_decide_eq_true h2
    have k := sndEs es ck _ W X h7 xo
    have key : PE X (.Call (.Name "list" p) [.Call (.Name "range" p2) args [] pos2] [] pos) (tO Z.G W (evOwn Z.T Z.O (.lrg false es))) := by
      rcases Bool.or_eq_true_iff.mp h8 with h8 | h8
      · obtain ⟨x, e, rfl, rfl⟩ := okEs_len h7 (beq_iff_eq.mp h8)
        cases k with | cons k1 s1 _ => exact sO_lrg1 xo.calm (xo.gl h5) (ckE xo h3) (xo.gl h6) (ckE xo h4) (k1.pe true) (star_cons s1)
      · obtain ⟨x, y, e, e', rfl, rfl⟩ := okEs_len2 h7 (beq_iff_eq.mp h8)
        cases k with | cons k1 s1 k2 => cases k2 with | cons k2 s2 _ => exact sO_lrg2 xo.calm (xo.gl h5) (ckE xo h3) (xo.gl h6) (ckE xo h4) (k1.pe true) (k2.pe true) (star_cons s1) (star_cons s2)
    exact .own key (by intro _; rfl) fun b => lrg_ev
  | .isi a ts, ck, e0, W, X, h, xo => by
    unfold okE at h
    split at h <;> (try (cases h; done)) <;> (try (rename_i heq; cases heq; done))
    rename_i a' ts' x p v c pos heq
    cases heq
    simp only [Bool.and_eq_true] at h
    obtain ⟨⟨⟨⟨⟨⟨h1, h2⟩, h3⟩, h4⟩, h5⟩, h6⟩, h7⟩ := h
    obtain rfl := of_decide_eq_true h1
    have ha := sndE a ck _ W X h7 xo
    refine .plain (fun b => ?_) (by intro _; rfl) rfl
    unfold okTys at h4
    split at h4
    · obtain ⟨hc, ht⟩ := xo.ty h4
      exact s_isi1 xo.ok xo.K ht (xo.gl h3) (ckE xo h2) (ha.pe true) hc (star_cons h5) (star_cons h6)
    · simp only [Bool.and_eq_true, decide_eq_true_eq] at h4
      obtain ⟨hc, ht⟩ := xo.tyL h4.1
      exact s_isiN xo.ok xo.K ht h4.2 (xo.gl h3) (ckE xo h2) (ha.pe true) hc (star_cons h5)
    · cases h4
  | .mt m a es, ck, e0, W, X, h, xo => by
    unfold okE at h
    split at h <;> (try (cases h; done)) <;> (try (rename_i heq; cases heq; done))
    rename_i m' a' es' o n apos args cpos heq
    cases heq
    simp only [Bool.and_eq_true] at h
    obtain ⟨⟨⟨⟨⟨⟨h1, h2⟩, h3⟩, h4⟩, h5⟩, h6⟩, h7⟩ := h
    obtain rfl := of_decide_eq_true h1
    have ha := sndE a ck _ W X h4 xo
    have k := sndEs es ck _ W X h5 xo
    refine .plain (fun b => ?_) (by intro _; rfl) rfl
    cases k with
    | nil =>
      have e : mtName m = "pop" := by simpa using h7
      have em : m = .pop := by cases m <;> first | rfl | (exfalso; revert e; decide +kernel)
      subst em
      exact s_mt0 xo.K (base_ok h2) h3 (ha.pe true)
    | @cons x0 r0 e0 es0 k1 s1 kr =>
      have hq := (okEs_head h5).2
      obtain ⟨x1, q1, e1, _, hq⟩ := hq
      cases e1
      have st := okEs_star hq cpos X.env
      have k' := SEs.cons k1 s1 kr
      refine s_mt xo.K (base_ok h2) h3 (ha.pe true) k'.pa.1 ?_ (star_cons s1) st.1
      rw [star_cons s1]
      have hlt := of_decide_eq_true h6
      have e2 : (backTo cpos ((false, eval e0 X.env) :: starEach es0 X.env)).all (fun x => !x.1) = true := by
        show (!false && (backTo cpos (starEach es0 X.env)).all (fun x => !x.1)) = true
        rw [st.2]; rfl
      rw [e2]
      simp only [keywordEach, backToKw, List.map_nil, List.all_nil, Bool.true_and, decide_eq_true_eq, List.length_nil, List.isEmpty_nil, if_true]
      omega
  | .comp vs t it cs e', ck, e0, W, X, h, xo => by
    unfold okE at h
    split at h <;> (try (cases h; done)) <;> (try (rename_i heq; cases heq; done))
    rename_i vs' t' it' cs' e2 elt tg iter ifs scope pos heq
    cases heq
    simp only [Bool.and_eq_true] at h
    obtain ⟨⟨⟨⟨⟨⟨⟨⟨h1, h2⟩, h3⟩, h4⟩, h5⟩, h6⟩, h7⟩, h8⟩, h9⟩ := h
    refine .own (sO_comp xo.calm xo.nd (sndI it ck _ _ W X h1 xo) (by rw [xo.hN, xo.sc]; exact blkOk_by h2) (own_map ck vs) (fun s H C cl fp => sndT t _ _ _ _ h3 (xo.blk s H C cl fp)) (fun s H C cl fp => ?_) (fun s H C cl fp => (sndE e' _ _ _ _ h8 (xo.blk s H C cl fp)).pe false) (set_fold h9) (fun i hi => of_decide_eq_true (List.all_eq_true.mp h4 i hi))) (by intro _; rfl) fun b => comp_ev
    have k := sndEs cs _ _ _ _ h5 (xo.blk s H C cl fp)
    cases k with
    | nil => exact s_ts0
    | cons k1 s1 kr =>
      cases kr with
      | nil => exact s_ts1 (k1.pt (tOk_cons h6).1)
      | cons _ _ _ => simp at h7
  | .gal x, ck, e0, W, X, h, xo => by
    unfold okE at h
    simp only [Bool.and_eq_true] at h
    have hx := sndE x ck _ W X h.1 xo
    exact ⟨fun b => s_gal (hx.po h.2.1), fun _ => s_test (s_gal (hx.po h.2.1)) (fun w => plainT_ok h.2.2 w), fun q => nomatch q⟩
theorem sndEs : ∀ (r : Es) (ck : Ck) (es : List Expr) (W : WX) (X : Cx), okEs ck r es = true → XOk Z ck W X → SEs Z W X r es
  | .nil, ck, [], W, X, h, xo => .nil
  | .nil, ck, _ :: _, W, X, h, xo => by simp [okEs] at h
  | .cons _ _, ck, [], W, X, h, xo => by simp [okEs] at h
  | .cons x r, ck, e :: es, W, X, h, xo => by
    simp only [okEs, Bool.and_eq_true] at h
    exact .cons (sndE x ck e W X h.1.1 xo) h.1.2 (sndEs r ck es W X h.2 xo)
theorem sndKs : ∀ (r : Es) (ck : Ck) (kws : List Keyword) (W : WX) (X : Cx), okKs ck r kws = true → XOk Z ck W X → PK X kws (tA Z.T Z.O Z.G W kws.length r)
  | .nil, ck, [], W, X, h, xo => k_nil
  | .nil, ck, _ :: _, W, X, h, xo => by simp [okKs] at h
  | .cons _ _, ck, [], W, X, h, xo => by simp [okKs] at h
  | .cons x r, ck, ⟨some _, e, _⟩ :: kws, W, X, h, xo => by
    simp only [okKs, Bool.and_eq_true] at h
    exact k_cons ((sndE x ck e W X h.1 xo).pe false) (sndKs r ck kws W X h.2 xo)
  | .cons x r, ck, ⟨none, e, _⟩ :: kws, W, X, h, xo => by simp [okKs] at h
theorem sndO : ∀ (r : Es) (ck : Ck) (o : Option Expr) (W : WX) (X : Cx), okO ck r o = true → XOk Z ck W X → PO X o (tP Z.T Z.O Z.G W r)
  | .nil, ck, none, W, X, h, xo => s_pnone
  | .nil, ck, some _, W, X, h, xo => by simp [okO] at h
  | .cons x .nil, ck, some e, W, X, h, xo => s_psome ((sndE x ck e W X (by simpa [okO] using h) xo).pe true)
  | .cons _ .nil, ck, none, W, X, h, xo => by simp [okO] at h
  | .cons _ (.cons _ _), ck, o, W, X, h, xo => by cases o <;> simp [okO] at h
theorem sndI : ∀ (it : It) (ck : Ck) (tg iter : Expr) (W : WX) (X : Cx), okI ck it tg iter = true → XOk Z ck W X → PI X tg iter (tIt Z.T Z.O Z.G W it)
  | .seq x, ck, tg, e, W, X, h, xo => by
    simp only [okI, Bool.and_eq_true] at h
    exact s_itSeq xo.K ((sndE x ck e W X h.1 xo).pe false)
  | .rng es, ck, tg, e, W, X, h, xo => by
    unfold okI at h
    split at h <;> (try (cases h; done)) <;> (try (rename_i heq; cases heq; done))
    rename_i es' x p args pos heq
    cases heq
    simp only [Bool.and_eq_true] at h
    obtain ⟨⟨⟨⟨h1, h2⟩, h3⟩, h4⟩, h5⟩ := h
    obtain rfl := of_decide_eq_true h1
    have k := sndEs es ck _ W X h4 xo
    rcases Bool.or_eq_true_iff.mp h5 with h5 | h5
    · rcases Bool.or_eq_true_iff.mp h5 with h5 | h5
      · obtain ⟨x, e, rfl, rfl⟩ := okEs_len h4 (beq_iff_eq.mp h5)
        cases k with | cons k1 s1 _ => exact s_itRng1 (xo.gl h3) (ckE xo h2) (k1.pe true) (star_cons s1)
      · obtain ⟨x, y, e, e', rfl, rfl⟩ := okEs_len2 h4 (beq_iff_eq.mp h5)
        cases k with | cons k1 s1 k2 => cases k2 with | cons k2 s2 _ => exact s_itRng2 (xo.gl h3) (ckE xo h2) (k1.pe true) (k2.pe true) (star_cons s1) (star_cons s2)
    · obtain ⟨x, y, z, e, e', e2, rfl, rfl⟩ := okEs_len3 h4 (beq_iff_eq.mp h5)
      cases k with | cons k1 s1 k2 => cases k2 with | cons k2 s2 k3 => cases k3 with | cons k3 s3 _ =>
        exact s_itRng3 (xo.gl h3) (ckE xo h2) (k1.pe true) (k2.pe true) (k3.pe true) (star_cons s1) (star_cons s2) (star_cons s3) fun ta ha => pi_range3 (xo.gl h3) (ckE xo h2) ha (star_cons s1) (by rw [star_cons s2, star_cons s3]; rfl)
  | .enum x, ck, tg, e, W, X, h, xo => by
    unfold okI at h
    split at h <;> (try (cases h; done)) <;> (try (rename_i heq; cases heq; done))
    rename_i x' es kk tp y p e1 pos heq
    cases heq
    simp only [Bool.and_eq_true] at h
    obtain ⟨⟨⟨⟨h1, h2⟩, h3⟩, h4⟩, h5⟩ := h
    obtain rfl := of_decide_eq_true h1
    exact s_enum xo.K (xo.gl h3) (ckE xo h2) ((sndE x ck _ W X h4 xo).pe false) (star_cons h5)
  | .zip a b, ck, tg, e, W, X, h, xo => by
    unfold okI at h
    cases h
theorem sndT : ∀ (t : Tg) (ck : Ck) (e : Expr) (W : WX) (X : Cx), okT ck t e = true → XOk Z ck W X → PG X e (gT Z.T Z.O Z.G W t)
  | .nm i, ck, e, W, X, h, xo => by
    unfold okT at h
    split at h <;> (try (cases h; done)) <;> (try (rename_i heq; cases heq; done))
    rename_i i' x p heq
    cases heq
    simp only [Bool.and_eq_true, decide_eq_true_eq] at h
    obtain ⟨h1, h2⟩ := xo.loc h.2
    exact s_nm xo.nd (by rw [xo.hN]; exact h.1) h1 h2
  | .tup ts, ck, e, W, X, h, xo => by
    unfold okT at h
    split at h <;> (try (cases h; done)) <;> (try (rename_i heq; cases heq; done))
    rename_i ts' es k p heq
    cases heq
    have k := sndTs ts ck es W X h xo
    exact s_gtup xo.K xo.calm k.1 k.2.1 k.2.2
  | .sub a i, ck, e, W, X, h, xo => by
    unfold okT at h
    split at h <;> (try (cases h; done)) <;> (try (rename_i heq; cases heq; done))
    rename_i a' i' o ix p heq
    cases heq
    simp only [Bool.and_eq_true] at h
    obtain ⟨⟨h1, h2⟩, h3⟩ := h
    exact s_gsub h1 ((sndE a ck _ W X h2 xo).pe true) ((sndE i ck _ W X h3 xo).pe true)
  | .fld a f, ck, e, W, X, h, xo => by
    unfold okT at h
    cases h
theorem sndTs : ∀ (ts : Tgs) (ck : Ck) (es : List Expr) (W : WX) (X : Cx), okTgs ck ts es = true → XOk Z ck W X → PGs X es (gTs Z.T Z.O Z.G W ts) ∧ (assignEach es X.env).findIdx? (·.1) = none ∧ (assignEach es X.env).length = ts.len
  | .nil, ck, [], W, X, h, xo => ⟨s_gnil, rfl, rfl⟩
  | .nil, ck, _ :: _, W, X, h, xo => by simp [okTgs] at h
  | .cons _ _, ck, [], W, X, h, xo => by simp [okTgs] at h
  | .cons t r, ck, e :: es, W, X, h, xo => by
    simp only [okTgs, Bool.and_eq_true] at h
    obtain ⟨⟨h1, h2⟩, h3⟩ := h
    obtain ⟨k1, k2, k3⟩ := sndTs r ck es W X h3 xo
    refine ⟨s_gcons (sndT t ck e W X h1 xo) k1 (by rw [assignEach_cons h2]; rfl), ?_, ?_⟩
    · rw [assignEach_cons h2, List.findIdx?_cons]
      simp only [Bool.false_eq_true, if_false, k2]
      rfl
    · rw [assignEach_cons h2, List.length_cons, k3]; rfl
end
end Dn

/-! PySnd2: the check is sound for statements. -/
namespace Dn
open PySem L2
variable {Z : Sta}
theorem filterMap_ne {α β : Type} {f : α → Option β} : ∀ {ts : List α} {t : α}, t ∈ ts → f t = none → ((ts.filterMap f).length != ts.length) = true := by
  intro ts t ht h
  have : (ts.filterMap f).length < ts.length := by
    induction ts with
    | nil => cases ht
    | cons a r ih =>
      have le := List.length_filterMap_le f r
      rw [List.filterMap_cons]
      rcases List.mem_cons.mp ht with rfl | hr
      · rw [h]; simp only [List.length_cons]; omega
      · have := ih hr
        split <;> simp only [List.length_cons] <;> omega
  simpa using Nat.ne_of_lt this
theorem noSwap_tup {ts vs : List Expr} {k k2 : Nat} {p p2 : Pos} {env : Env} (h : noSwap env.scope (.Tuple ts k p) (.Tuple vs k2 p2) = true) : swappedStores [.Tuple ts k p] (.Tuple vs k2 p2) env = pure none := by
  unfold noSwap at h
  unfold swappedStores
  simp only [pure_bind]
  split
  · rfl
  · rename_i h0
    split
    · rfl
    · rename_i h1
      rcases Bool.or_eq_true_iff.mp h with h | h
      · rcases Bool.or_eq_true_iff.mp h with h | h
        · exfalso; apply h0; rw [h]; rfl
        · simp only [Bool.and_eq_true] at h
          split
          · rfl
          · split
            · rfl
            · rename_i h3; exact absurd h.2 h3
      · simp only [Bool.and_eq_true] at h
        obtain ⟨t, ht, hn⟩ := List.any_eq_true.mp h.2
        split
        · rfl
        · rename_i h3
          exfalso; apply h3
          rw [Bool.or_eq_true]
          refine .inl (filterMap_ne ht ?_)
          cases t with
          | Name x p =>
            have hx : lcB env.scope x = false := by simpa [notLoc] using hn
            have hk : (env.kindOf x == some .local) = false := by
              unfold lcB at hx
              split at hx
              · cases hx
              · rename_i hne
                rw [beq_eq_false_iff_ne]
                exact fun z => hne z
            show (if (env.kindOf x == some NameKind.local && _) = true then some x else none) = none
            rw [hk]; rfl
          | _ => rfl
theorem noSwap_ok {tg e : Expr} {env : Env} (h : noSwap env.scope tg e = true) : swappedStores [tg] e env = pure none := by
  by_cases he : notTup e = true
  · exact tup_swaps he
  · cases e with
    | Tuple vs k2 p2 =>
      cases tg with
      | Tuple ts k p => exact noSwap_tup h
      | List ts p => cases h
      | _ => rfl
    | _ => exact (he rfl).elim
theorem sole_swaps {tg e : Expr} {l : Nat} {env : Env} (h : notComp e = true) : swapsWithSole [tg] e l env = pure false := comp_swaps (t := some tg) h
theorem filterMap_two {α β : Type} {f : α → Option β} {a b : α} {x y : β} (h1 : f a = some x) (h2 : f b = some y) : [a, b].filterMap f = [x, y] := by
  rw [List.filterMap_cons, h1, List.filterMap_cons, h2]; rfl
/-- two names change places -/
theorem swap2 {x y : Str} {a b : Expr} {px py pt pt2 : Pos} {k k2 : Nat} {env : Env} (hb : env.blockKind = .function) (hx : env.scope.names.lookup x = some .local) (hy : env.scope.names.lookup y = some .local) (ha : notStar a = true) (hb2 : notStar b = true) (hl : (px.line == py.line) = true)
    (hf : (!(([a, b] : List Expr).all (foldedForSure 8))) = true) (hc : (!(([a, b] : List Expr).all (constantsAlone 8))) = true) (hne : (!(x == y)) = true) : swappedStores [.Tuple [.Name x px, .Name y py] k pt] (.Tuple [a, b] k2 pt2) env = pure (some [x, y]) := by
  have e1 : env.kindOf x = some .local := hx
  have e2 : env.kindOf y = some .local := hy
  have hl' : (py.line == px.line) = true := by rw [beq_iff_eq] at hl ⊢; exact hl.symm
  have hf' : (([a, b] : List Expr).all (foldedForSure 8)) = false := by rw [Bool.not_eq_true'] at hf; exact hf
  have hc' : (([a, b] : List Expr).all (constantsAlone 8)) = false := by rw [Bool.not_eq_true'] at hc; exact hc
  have hxy : x ≠ y := by simpa using hne
  have hyx : (y == x) = false := by simpa using hxy.symm
  unfold swappedStores
  simp only [pure_bind, hb]
  split
  · rename_i h0; exact (Bool.false_ne_true h0).elim
  · split
    · rename_i h1
      exfalso
      simp only [List.any_cons, List.any_nil, Bool.or_false, Bool.or_eq_true] at h1
      rcases h1 with h1 | h1
      · cases a <;> first | (cases ha; done) | (cases h1; done)
      · cases b <;> first | (cases hb2; done) | (cases h1; done)
    · have hd : List.eraseDups [x, y] = [x, y] := by
        simp [List.eraseDups_cons, hyx]
      rw [filterMap_two (x := x) (y := y) (by show (if (env.kindOf x == some NameKind.local && px.line == px.line) = true then some x else none) = some x; rw [e1, beq_self_eq_true px.line]; rfl)
        (by show (if (env.kindOf y == some NameKind.local && py.line == px.line) = true then some y else none) = some y; rw [e2, hl']; rfl), hd]
      split
      · rename_i h2
        exact (Bool.false_ne_true h2).elim
      · rw [hf', hc']
        rfl
/-- where a def's own body stands -/
structure SOk (Z : Sta) (ck : Ck) (W : WX) (X : Cx) : Prop where
  x : XOk Z ck W X
  hp : PassesOwn (model X.prog X.w) X.A X.env X.xe
  bk : X.env.blockKind = .function
/-- name = [.. for ..] -/
theorem lc_stm {ck : Ck} {W : WX} {X : Cx} (so : SOk Z ck W X) {i : Nat} {y : Str} {py pos : Pos} {x : E} {e : Expr} {st : S} (hi : X.N[i]? = some y) (hl : okLc ck y py e = true) (h : okE ck x e = true) (hx : x.isComp = true)
    (hst : ∀ vs t it cs e', x = .comp vs t it cs e' → ∀ Dd σ H, tSt Z.G W (ex Z.T Z.O st) Dd σ H → tO Z.G W (evOwn Z.T Z.O (.comp vs t it cs e')) σ H (fun v H1 => gName i v σ H1 Dd.nx)) :
    PS X (.Assign [.Name y py] e pos) (tSt Z.G W (ex Z.T Z.O st)) := by
  have xo := so.x
  cases x with
  | comp vs t it cs e' =>
    unfold okE at h
    split at h <;> (try (cases h; done)) <;> (try (rename_i heq; cases heq; done))
    rename_i vs' t' it' cs' e2 elt tg iter ifs scope lp heq
    cases heq
    simp only [Bool.and_eq_true] at h
    obtain ⟨⟨⟨⟨⟨⟨⟨⟨h1, h2⟩, h3⟩, h4⟩, h5⟩, h6⟩, h7⟩, h8⟩, h9⟩ := h
    unfold okLc at hl
    simp only [Bool.and_eq_true] at hl
    obtain ⟨⟨l1, l2⟩, l3⟩ := hl
    refine ss_setLc xo.calm xo.nd hi (xo.lc l1) ?_ (sndI it ck _ _ W X h1 xo) (by rw [xo.hN, xo.sc]; exact blkOk_by h2) (own_map ck vs) (fun s H C cl fp => sndT t _ _ _ _ h3 (xo.blk s H C cl fp)) (fun s H C cl fp => ?_) (fun s H C cl fp => (sndE e' _ _ _ _ h8 (xo.blk s H C cl fp)).pe false) (set_fold h9) (fun i hi => of_decide_eq_true (List.all_eq_true.mp h4 i hi)) (hst vs t it cs e' rfl)
    · have k1 : (X.env.blockKind == ScopeKind.function) = true := by rw [so.bk]; rfl
      have k2 : (X.env.kindOf y == some NameKind.local) = true := by
        have e2 : X.env.kindOf y = some .local := xo.lc l1
        rw [e2]; rfl
      show (pure (X.env.blockKind == ScopeKind.function && X.env.kindOf y == some NameKind.local && py.line == lp.line && !(scope.names.any fun (n, k) => n == y && (k == .local || k == .cell))) : Sem Bool) = pure true
      rw [k1, k2, l2, l3]; rfl
    · have k := sndEs cs _ _ _ _ h5 (xo.blk s H C cl fp)
      cases k with
      | nil => exact s_ts0
      | cons k1 s1 kr =>
        cases kr with
        | nil => exact s_ts1 (k1.pt (tOk_cons h6).1)
        | cons _ _ _ => simp at h7
  | _ => cases hx
mutual
theorem sndS : ∀ (x : S) (ck : Ck) (st : Stmt) (W : WX) (X : Cx), okS ck x st = true → SOk Z ck W X → PS X st (tSt Z.G W (ex Z.T Z.O x))
  | .asg t x, ck, st, W, X, h, so => by
    have xo := so.x
    unfold okS at h
    split at h <;> (try (cases h; done)) <;> (try (rename_i heq; cases heq; done))
    rename_i t' x' tg e pos heq
    cases heq
    split at h
    · rename_i o f oe n p
      simp only [Bool.and_eq_true, decide_eq_true_eq] at h
      obtain ⟨⟨⟨h1, h2⟩, h3⟩, h4⟩ := h
      obtain rfl := xo.nms f n h1
      exact ss_fld xo.fnm xo.ok xo.K ((sndE o ck oe W X h2 xo).pe true) ((sndE x ck e W X h3 xo).pe false) (comp_swaps h4)
    · rename_i i y py
      simp only [Bool.and_eq_true, decide_eq_true_eq] at h
      obtain ⟨⟨⟨h1, h2⟩, h3⟩, h4⟩ := h
      obtain ⟨l1, l2⟩ := xo.loc h2
      have hi : X.N[i]? = some y := by rw [xo.hN]; exact h1
      rcases Bool.or_eq_true_iff.mp h4 with h4 | h4
      · exact ss_asg ((sndE x ck e W X h3 xo).pe false) (s_nm xo.nd hi l1 l2) (sole_swaps h4) rfl rfl
      · simp only [Bool.and_eq_true] at h4
        exact lc_stm so hi h4.2 h3 h4.1 fun vs t it cs e' ex Dd σ H q => by subst ex; exact frz_read comp_ev q
    · simp only [Bool.and_eq_true] at h
      obtain ⟨⟨⟨⟨h1, h2⟩, h3⟩, h4⟩, h5⟩ := h
      exact ss_asg ((sndE x ck e W X h3 xo).pe false) (sndT _ ck _ W X h1 xo) (sole_swaps h4) (noSwap_ok (by rw [xo.sc]; exact h5)) (by rw [assignEach_cons h2]; rfl)
  | .aown i x, ck, st, W, X, h, so => by
    have xo := so.x
    unfold okS at h
    split at h <;> (try (cases h; done)) <;> (try (rename_i heq; cases heq; done))
    rename_i i' x' y py e pos heq
    cases heq
    simp only [Bool.and_eq_true, decide_eq_true_eq] at h
    obtain ⟨⟨⟨⟨h1, h2⟩, h3⟩, h4⟩, h5⟩ := h
    obtain ⟨l1, l2⟩ := xo.loc h2
    have hi : X.N[i]? = some y := by rw [xo.hN]; exact h1
    rcases Bool.or_eq_true_iff.mp h5 with h5 | h5
    · exact ss_aown ((sndE x ck e W X h4 xo).po h3) xo.nd hi l1 l2 (sole_swaps h5)
    · simp only [Bool.and_eq_true] at h5
      exact lc_stm so hi h5.2 h4 h5.1 fun vs t it cs e' ex Dd σ H q => by subst ex; exact own_read q
  | .par i j u v, ck, st, W, X, h, so => by
    have xo := so.x
    unfold okS at h
    split at h <;> (try (cases h; done)) <;> (try (rename_i heq; cases heq; done))
    rename_i i' j' u' v' x px y py k p a b k2 p2 pos heq
    cases heq
    simp only [Bool.and_eq_true, decide_eq_true_eq] at h
    obtain ⟨⟨⟨⟨⟨⟨⟨⟨⟨⟨⟨⟨h1, h2⟩, h3⟩, h4⟩, h5⟩, h6⟩, h7⟩, h8⟩, h9⟩, h10⟩, h11⟩, h12⟩, h13⟩ := h
    exact ss_par xo.calm xo.nd (by rw [xo.hN]; exact h1) (by rw [xo.hN]; exact h2) h3 (xo.lc h4) (xo.lc h5) ((sndE u ck a W X h6 xo).pe false) ((sndE v ck b W X h7 xo).pe false) (star_cons h8) (star_cons h9) (swap2 so.bk (xo.lc h4) (xo.lc h5) h8 h9 h10 h11 h12 h13) rfl
  | .expr x, ck, st, W, X, h, so => by
    have xo := so.x
    unfold okS at h
    split at h <;> (try (cases h; done)) <;> (try (rename_i heq; cases heq; done))
    rename_i x' e pos heq
    cases heq
    simp only [Bool.and_eq_true] at h
    exact ss_expr ((sndE x ck e W X h.1 xo).pe true) (comp_swaps h.2)
  | .ret x, ck, st, W, X, h, so => by
    have xo := so.x
    unfold okS at h
    split at h <;> (try (cases h; done)) <;> (try (rename_i heq; cases heq; done))
    rename_i x' e pos heq
    cases heq
    exact ss_ret ((sndE x ck e W X h xo).pe false)
  | .retn, ck, st, W, X, h, so => by
    unfold okS at h
    split at h <;> (try (cases h; done)) <;> (try (rename_i heq; cases heq; done))
    exact ss_retn
  | .ite c a b, ck, st, W, X, h, so => by
    have xo := so.x
    unfold okS at h
    split at h <;> (try (cases h; done)) <;> (try (rename_i heq; cases heq; done))
    rename_i c' a' b' e as bs pos heq
    cases heq
    simp only [Bool.and_eq_true] at h
    obtain ⟨⟨⟨h1, h2⟩, h3⟩, h4⟩ := h
    exact ss_ite ((sndE c ck e W X h1 xo).pt h4) (sndSs a ck as W X h2 so) (sndSs b ck bs W X h3 so)
  | .fors t it b, ck, st, W, X, h, so => by
    have xo := so.x
    unfold okS at h
    split at h <;> (try (cases h; done)) <;> (try (rename_i heq; cases heq; done))
    rename_i t' it' b' tg iter body pos heq
    cases heq
    simp only [Bool.and_eq_true] at h
    obtain ⟨⟨⟨h1, h2⟩, h3⟩, h4⟩ := h
    exact ss_for so.hp xo.calm (sndI it ck tg iter W X h1 xo) (sndT t ck tg W X h2 xo) (sndSs b ck body W X h3 so) (set_fold h4)
  | .whl n c b, ck, st, W, X, h, so => by
    have xo := so.x
    unfold okS at h
    split at h <;> (try (cases h; done)) <;> (try (rename_i heq; cases heq; done))
    rename_i n' c' b' e body pos heq
    cases heq
    simp only [Bool.and_eq_true] at h
    obtain ⟨⟨h1, h2⟩, h3⟩ := h
    exact ss_whl so.hp ((sndE c ck e W X h1 xo).pt h3) (sndSs b ck body W X h2 so)
  | .pas, ck, st, W, X, h, so => by
    unfold okS at h
    split at h <;> (try (cases h; done)) <;> (try (rename_i heq; cases heq; done))
    exact ss_pas
  | .brk, ck, st, W, X, h, so => by
    unfold okS at h
    split at h <;> (try (cases h; done)) <;> (try (rename_i heq; cases heq; done))
    exact ss_brk
  | .cnt, ck, st, W, X, h, so => by
    unfold okS at h
    split at h <;> (try (cases h; done)) <;> (try (rename_i heq; cases heq; done))
    exact ss_cnt
  | .doc, ck, st, W, X, h, so => by
    unfold okS at h
    split at h <;> (try (cases h; done)) <;> (try (rename_i heq; cases heq; done))
    exact ss_doc
  | .never, ck, st, W, X, h, so => ss_never
theorem sndSs : ∀ (r : Ss) (ck : Ck) (sts : List Stmt) (W : WX) (X : Cx), okSs ck r sts = true → SOk Z ck W X → PSs X sts (tSt Z.G W (exs Z.T Z.O r))
  | .nil, ck, [], W, X, h, so => ss_nil
  | .nil, ck, _ :: _, W, X, h, so => by simp [okSs] at h
  | .cons _ _, ck, [], W, X, h, so => by simp [okSs] at h
  | .cons s r, ck, st :: sts, W, X, h, so => by
    simp only [okSs, Bool.and_eq_true] at h
    exact ss_cons (sndS s ck st W X h.1 so) (sndSs r ck sts W X h.2 so)
end
end Dn

/-! PyFun: each def keeps its promise, at every depth. -/
namespace Dn
open PySem L2
/-- one def: where it stands, its row, its slots, its tree -/
structure Def where
  at_ : Str × Option Str
  name : Str
  qual : Str
  params : Arguments
  body : List Stmt
  scope : Scope
  dds : List D
  N : List Str
  fn : Fn
structure Prg where
  defs : List Def
  gi : List (Str × Int)
  bl : List Str
  cls : List Str
  inits : List Nat
  flds : List (List Nat)
  nm : List Str
  kbs : List (Nat × Nat × List Str × List Nat)
def dvOf : D → He.Dv
  | .bl b => .bl b
  | .int i => .int i
  | .str s => .str s
  | _ => .non
def D.base : D → Bool
  | .non | .bl _ | .int _ | .str _ => true
  | _ => false
theorem dv_rep {G : Gm} {R : Rl} {d : D} (h : d.base = true) : Rep G R d ((dvOf d).v G.K) := by
  cases d with
  | non => exact Rep.non
  | bl b => exact Rep.bl
  | int i => exact Rep.int
  | str s => exact Rep.str
  | _ => cases h
theorem dv_reps {G : Gm} {R : Rl} : ∀ {ds : List D}, ds.all D.base = true → Reps G R ds (ds.map fun d => (dvOf d).v G.K)
  | [], _ => .nil
  | d :: r, h => by
    simp only [List.all_cons, Bool.and_eq_true] at h
    exact .cons (dv_rep h.1) (dv_reps h.2)
def Def.toD (d : Def) : He.DefD := ⟨d.at_, d.name, d.qual, d.params, d.body, d.scope, d.dds.map dvOf, []⟩
def Def.ps (d : Def) : List Str := d.N.take d.fn.np
def Prg.T (p : Prg) : Tab := ⟨p.defs.map (·.fn), p.flds⟩
def Prg.nmf (p : Prg) (f : Nat) : Str := (p.nm[f]?).getD Str.empty
def Prg.G (p : Prg) (K : PySem.W.Frag) : Gm := ⟨K, fun c => He.ga K ((p.cls[c]?).getD Str.empty), fun c => ((p.flds[c]?).getD []).map p.nmf, p.cls.length, fun _ => 0, none⟩
def atName : Str × Option Str → Option Str
  | (x, none) => some x
  | _ => none
def drops (ds : List D) : List (List D) := (List.range (ds.length + 1)).map fun j => ds.drop j
def Prg.ck (p : Prg) (d : Def) : Ck := { N := d.N, sc := d.scope, fc := d.scope.names, gi := p.gi, bl := p.bl, fns := p.defs.map fun d => atName d.at_, dfl := p.defs.map fun d => drops d.dds, cls := p.cls, inits := p.inits, nm := p.nm, kbs := p.kbs }
/-- a def's scope fits its names -/
def scOk (N ps : List Str) (sc : Scope) : Bool :=
  (match sc.kind with
    | .function => true
    | _ => false) && !sc.isGenerator && !sc.isCoroutine && decide (N.take ps.length = ps) && decide N.Nodup &&
  sc.names.all (fun q => match q.2 with
    | .free => false
    | _ => true) && ps.all fun x => match sc.names.lookup x with
    | some .local | some .cell => true
    | _ => false
theorem scOk_ok {N ps : List Str} {sc : Scope} (h : scOk N ps sc = true) : FnScope N ps sc := by
  unfold scOk at h
  simp only [Bool.and_eq_true, decide_eq_true_eq, Bool.not_eq_true'] at h
  obtain ⟨⟨⟨⟨⟨⟨h1, h2⟩, h3⟩, h4⟩, h5⟩, h6⟩, h7⟩ := h
  refine ⟨?_, h3, h2, h5, h4, fun x hx => ?_, fun y hy e => ?_⟩
  · split at h1
    · assumption
    · cases h1
  · have q := List.all_eq_true.mp h7 x hx
    split at q
    · exact .inl (by assumption)
    · exact .inr (by assumption)
    · cases q
  · have q := List.all_eq_true.mp h6 y hy
    rw [e] at q
    cases q
/-- what is looked at of one def -/
def Prg.okD (p : Prg) (d : Def) : Bool := okSs (p.ck d) d.fn.body d.body && scOk d.N d.ps d.scope && decide (d.fn.nn = d.N.length) && decide (d.fn.np ≤ d.N.length) && d.dds.all D.base
abbrev Def.Fun (d : Def) (K : PySem.W.Frag) (fd : FuncData) : Prop := FunD K d.name d.qual d.params d.body d.scope ((d.toD).dvs K) [] (He.fAd K d.at_) fd
/-- how its arguments bind -/
def BindOk (d : Def) : Prop := ∀ (K : PySem.W.Frag) (fd : FuncData), d.Fun K fd → ∀ j, j ≤ d.dds.length → ∃ vals, Vals (((d.toD).dvs K).drop j) vals ∧ Binds K fd d.ps vals
/-- how calls of it by keywords bind -/
def KwBok (d : Def) (n : Nat) (ks : List Str) (ix : List Nat) : Prop := ∀ (K : PySem.W.Frag) (fd : FuncData), d.Fun K fd → KwBind K fd d.ps n ks ix
/-! ### what is looked at of the heap's part -/
def baseTy : List String := ["NoneType", "bool", "int", "str", "tuple", "list"]
def tyStr : Ty → String
  | .int => "int" | .bool => "bool" | .str => "str" | .tuple => "tuple" | .list => "list" | .own _ => ""
def baseIs (n : String) : Ty → Bool
  | .int => n == "int" || n == "bool"
  | .bool => n == "bool"
  | .str => n == "str"
  | .tuple => n == "tuple"
  | .list => n == "list"
  | .own _ => false
def kitB (K : PySem.W.Frag) (t c : Value) (b : Bool) : Bool := decide (PySem.W.kitOne K t c = some b)
def baseTys : List Ty := [.int, .bool, .str, .tuple, .list]
def Prg.clsOk (p : Prg) (K : PySem.W.Frag) (c : Nat) (x : Str) : Bool :=
  (He.Fa.glo x).ok K && (He.Fa.cls x).ok K && (((p.flds[c]?).getD []).map p.nmf).all (fun f => (He.Fa.noat x f).ok K) && PySem.W.keepIn K (.ref (He.ga K x)) &&
  He.eqO (PySem.W.findIn K (.ref (He.ga K x)) "__class__") (some (some (.builtin "object.__class__"))) && He.eqO (PySem.W.specialIn K (.builtin "object.__class__") "__get__") (some (some (.builtin "getset_descriptor.__get__"))) &&
  decide (PySem.W.takesIn K (.builtin "object.__class__") = some true) && decide (PySem.W.mroIn K (He.ga K x) (.type "object") = some true) &&
  baseTys.all (fun t => kitB K (.ref (He.ga K x)) (.type (tyStr t)) false) && baseTy.all (fun n => kitB K (.type n) (.ref (He.ga K x)) false) &&
  (List.range p.cls.length).all (fun e => kitB K (.ref (He.ga K x)) (.ref (He.ga K ((p.cls[e]?).getD Str.empty))) (decide (c = e)))
def Prg.chk (p : Prg) (K : PySem.W.Frag) : Bool :=
  p.defs.all (fun d => match d.at_ with
    | (x, none) => (He.Fa.glo x).ok K
    | _ => true) &&
  p.gi.all (fun q => (He.Fa.int q.1 q.2).ok K) && p.bl.all (fun x => (He.Fa.free x).ok K) &&
  (List.range p.cls.length).all (fun c => p.clsOk K c ((p.cls[c]?).getD Str.empty)) &&
  (List.range p.inits.length).all (fun c => decide (p.defs.length ≤ (p.inits[c]?).getD 0) || (He.Fa.mkr ((p.cls[c]?).getD Str.empty)).ok K) &&
  baseTy.all (fun n => baseTys.all fun t => kitB K (.type n) (.type (tyStr t)) (baseIs n t))
/-- what is looked at of the table -/
def Prg.okP (p : Prg) : Bool := (List.range p.cls.length).all (fun c => let fs := ((p.flds[c]?).getD []).map p.nmf; decide fs.Nodup && decide (fs.length < 1000)) &&
  (List.range p.inits.length).all (fun c => match p.defs[(p.inits[c]?).getD 0]? with
    | some d => decide (d.at_ = ((p.cls[c]?).getD Str.empty, some ("__init__" : Str))) && d.dds.isEmpty
    | none => true) && decide (p.flds.length ≤ p.cls.length) && decide (p.inits.length ≤ p.cls.length)

section
variable {p : Prg} {K : PySem.W.Frag}
theorem base_kit (h : p.chk K = true) {n : String} (hn : n ∈ baseTy) {t : Ty} (ht : t ∈ baseTys) : PySem.W.kitOne K (.type n) (.type (tyStr t)) = some (baseIs n t) := by
  unfold Prg.chk at h
  simp only [Bool.and_eq_true] at h
  exact of_decide_eq_true (List.all_eq_true.mp (List.all_eq_true.mp h.2 n hn) t ht)
theorem cls_chk (h : p.chk K = true) {c : Nat} {x : Str} (hx : p.cls[c]? = some x) : p.clsOk K c x = true := by
  unfold Prg.chk at h
  simp only [Bool.and_eq_true] at h
  have q := List.all_eq_true.mp h.1.1.2 c (List.mem_range.mpr (List.getElem?_eq_some_iff.mp hx).1)
  rw [hx] at q
  exact q
theorem cls_of {c : Nat} (h : c < p.cls.length) : ∃ x, p.cls[c]? = some x := ⟨_, List.getElem?_eq_getElem h⟩
theorem gC {c : Nat} {x : Str} (hx : p.cls[c]? = some x) : (p.G K).C c = He.ga K x := by
  show He.ga K ((p.cls[c]?).getD Str.empty) = _
  rw [hx]; rfl
theorem g_ok (hp : p.okP = true) (h : p.chk K = true) : GOk (p.G K) := by
  have few : ∀ c : Nat, (((p.flds[c]?).getD []).map p.nmf).Nodup ∧ (((p.flds[c]?).getD []).map p.nmf).length < 1000 := by
    intro c
    unfold Prg.okP at hp
    simp only [Bool.and_eq_true, decide_eq_true_eq] at hp
    by_cases hc : c < p.cls.length
    · have q := List.all_eq_true.mp hp.1.1.1 c (List.mem_range.mpr hc)
      simp only [Bool.and_eq_true, decide_eq_true_eq] at q
      exact q
    · have e : p.flds[c]? = none := List.getElem?_eq_none (by have := hp.1.2; omega)
      rw [e]
      exact ⟨List.nodup_nil, by show 0 < 1000; decide⟩
  refine ⟨fun c hc => ?_, fun c f hc hf => ?_, fun c => (few c).1, fun c => (few c).2, fun c H a dx fs hc e => ?_, fun d t b hd ht e => ?_⟩
  · obtain ⟨x, hx⟩ := cls_of hc
    have q := cls_chk h hx
    unfold Prg.clsOk at q
    simp only [Bool.and_eq_true] at q
    rw [gC hx]
    exact He.cls_ok q.1.1.1.1.1.1.1.1.1.2
  · obtain ⟨x, hx⟩ := cls_of hc
    have q := cls_chk h hx
    unfold Prg.clsOk at q
    simp only [Bool.and_eq_true] at q
    rw [gC hx]
    exact He.noat_ok (List.all_eq_true.mp q.1.1.1.1.1.1.1.1.2 f hf)
  · obtain ⟨x, hx⟩ := cls_of hc
    have q := cls_chk h hx
    unfold Prg.clsOk at q
    simp only [Bool.and_eq_true] at q
    rw [gC hx] at e ⊢
    exact .base (.ins e (He.cls_ok q.1.1.1.1.1.1.1.1.1.2) (He.eqO_ok q.1.1.1.1.1.1.2) (He.eqO_ok q.1.1.1.1.1.2) (of_decide_eq_true q.1.1.1.1.2) (of_decide_eq_true q.1.1.1.2))
  · have bs : ∀ n, n ∈ baseTy → ∀ b, (∀ u, u ∈ baseTys → t = u → b = baseIs n u) → (∀ e, t = .own e → b = false) → PySem.W.kitOne K (.type n) (clsVal (p.G K) t) = some b := by
      intro n hn b h1 h2
      have own : ∀ c, t = .own c → PySem.W.kitOne K (.type n) (.ref ((p.G K).C c)) = some false := fun c hc => by
        obtain ⟨x, hx⟩ := cls_of (ht c hc)
        have q := cls_chk h hx
        unfold Prg.clsOk at q
        simp only [Bool.and_eq_true] at q
        rw [gC hx]
        exact of_decide_eq_true (List.all_eq_true.mp q.1.2 n hn)
      have bt : ∀ u, u ∈ baseTys → t = u → PySem.W.kitOne K (.type n) (.type (tyStr u)) = some b := fun u hu hut => by
        rw [h1 u hu hut]; exact base_kit h hn hu
      cases t with
      | own c => rw [h2 c rfl]; exact own c rfl
      | int => exact bt .int (by simp [baseTys]) rfl
      | bool => exact bt .bool (by simp [baseTys]) rfl
      | str => exact bt .str (by simp [baseTys]) rfl
      | tuple => exact bt .tuple (by simp [baseTys]) rfl
      | list => exact bt .list (by simp [baseTys]) rfl
    have fin : ∀ n, n ∈ baseTy → tyVal (p.G K) d = .type n → (∀ u, u ∈ baseTys → isTy d u = some (baseIs n u)) → (∀ e, isTy d (.own e) = some false) → PySem.W.kitOne K (tyVal (p.G K) d) (clsVal (p.G K) t) = some b := fun n hn e1 h1 h2 => by
      rw [e1]
      exact bs n hn b (fun u hu hut => by rw [hut, h1 u hu] at e; exact (Option.some.inj e).symm) fun c hc => by rw [hc, h2 c] at e; exact (Option.some.inj e).symm
    have us : ∀ (n : String), (isTy d .int = some (baseIs n .int) ∧ isTy d .bool = some (baseIs n .bool) ∧ isTy d .str = some (baseIs n .str) ∧ isTy d .tuple = some (baseIs n .tuple) ∧ isTy d .list = some (baseIs n .list)) → ∀ u, u ∈ baseTys → isTy d u = some (baseIs n u) := fun n ⟨a1, a2, a3, a4, a5⟩ u hu => by
      cases u with
      | int => exact a1
      | bool => exact a2
      | str => exact a3
      | tuple => exact a4
      | list => exact a5
      | own c => simp [baseTys] at hu
    have dk : ∀ n : String, decide (n ∈ baseTy) = true → n ∈ baseTy := fun _ => of_decide_eq_true
    cases d with
    | non => exact fin "NoneType" (dk _ (by decide +kernel)) rfl (us _ (by decide +kernel)) fun _ => rfl
    | bl x => exact fin "bool" (dk _ (by decide +kernel)) rfl (us _ ⟨rfl, rfl, rfl, rfl, rfl⟩) fun _ => rfl
    | int x => exact fin "int" (dk _ (by decide +kernel)) rfl (us _ ⟨rfl, rfl, rfl, rfl, rfl⟩) fun _ => rfl
    | str x => exact fin "str" (dk _ (by decide +kernel)) rfl (us _ ⟨rfl, rfl, rfl, rfl, rfl⟩) fun _ => rfl
    | tup x => exact fin "tuple" (dk _ (by decide +kernel)) rfl (us _ ⟨rfl, rfl, rfl, rfl, rfl⟩) fun _ => rfl
    | lst x => exact fin "list" (dk _ (by decide +kernel)) rfl (us _ ⟨rfl, rfl, rfl, rfl, rfl⟩) fun _ => rfl
    | ins c fs =>
      obtain ⟨x, hx⟩ := cls_of (hd c fs rfl)
      have q := cls_chk h hx
      unfold Prg.clsOk at q
      simp only [Bool.and_eq_true] at q
      show PySem.W.kitOne K (.ref ((p.G K).C c)) (clsVal (p.G K) t) = some b
      rw [gC hx]
      have bt : ∀ u, u ∈ baseTys → PySem.W.kitOne K (.ref (He.ga K x)) (.type (tyStr u)) = some false := fun u hu => of_decide_eq_true (List.all_eq_true.mp q.1.1.2 u hu)
      cases t with
      | own c' =>
        have hc' := ht c' rfl
        obtain ⟨y, hy⟩ := cls_of hc'
        have q2 := of_decide_eq_true (List.all_eq_true.mp q.2 c' (List.mem_range.mpr hc'))
        show PySem.W.kitOne K _ (.ref ((p.G K).C c')) = some b
        rw [hy] at q2
        rw [gC hy]
        have e' : decide (c = c') = b := Option.some.inj e
        rw [← e']
        exact q2
      | int => have e' : false = b := Option.some.inj e; rw [← e']; exact bt .int (by simp [baseTys])
      | bool => have e' : false = b := Option.some.inj e; rw [← e']; exact bt .bool (by simp [baseTys])
      | str => have e' : false = b := Option.some.inj e; rw [← e']; exact bt .str (by simp [baseTys])
      | tuple => have e' : false = b := Option.some.inj e; rw [← e']; exact bt .tuple (by simp [baseTys])
      | list => have e' : false = b := Option.some.inj e; rw [← e']; exact bt .list (by simp [baseTys])
    | _ => cases e
theorem p_fnm : FNm p.T (p.G K) p.nmf := ⟨fun c fs h => by
  show ((p.flds[c]?).getD []).map p.nmf = _
  have h' : p.flds[c]? = some fs := h
  rw [h']; rfl⟩
end
/-! ### a body runs -/
section
variable {G : Gm} {P : Addr → Prop} {R : Rl}
theorem start_len {N : List Str} {vs : List V} (h : vs.length ≤ N.length) : (L2.start N vs).length = N.length := by
  unfold L2.start
  rw [List.length_append, List.length_map, List.length_replicate]; omega
theorem rep_emp {n i : Nat} {sl : Slot} (h : (List.replicate n Slot.emp)[i]? = some sl) : sl = .emp := by
  rw [List.getElem?_replicate] at h
  split at h <;> cases h
  rfl
/-- at a def's entry -/
theorem SR.enter {S : List Ob} {N : List Str} {ds : List D} {vs : List V} (S0' : S0 G P R S) (z : Reps G R ds vs) (hl : vs.length ≤ N.length) : SR G P R (L2.start N vs) ⟨ds.map .val ++ List.replicate (N.length - ds.length) .emp, S⟩ := by
  have l := z.length
  refine ⟨S0', ?_, fun i sl e => ?_, fun i j a h => ?_⟩
  · rw [start_len hl]
    show (ds.map Slot.val ++ List.replicate (N.length - ds.length) Slot.emp).length = _
    rw [List.length_append, List.length_map, List.length_replicate]; omega
  · have e' : (ds.map Slot.val ++ List.replicate (N.length - ds.length) Slot.emp)[i]? = some sl := e
    by_cases hi : i < ds.length
    · rw [List.getElem?_append_left (by rw [List.length_map]; exact hi), List.getElem?_map, List.getElem?_eq_getElem hi] at e'
      cases e'
      obtain ⟨v, h1, h2⟩ := z.get (List.getElem?_eq_getElem hi)
      refine ⟨v, ?_, h2⟩
      unfold L2.start
      rw [List.getElem?_append_left (by rw [List.length_map]; omega), List.getElem?_map, h1]; rfl
    · rw [List.getElem?_append_right (by rw [List.length_map]; omega)] at e'
      rw [rep_emp e']
      trivial
  · obtain ⟨⟨sl, e, ho⟩, _⟩ := h
    have e' : (ds.map Slot.val ++ List.replicate (N.length - ds.length) Slot.emp)[i]? = some sl := e
    exfalso
    by_cases hi : i < ds.length
    · rw [List.getElem?_append_left (by rw [List.length_map]; exact hi), List.getElem?_map, List.getElem?_eq_getElem hi] at e'
      cases e'
      cases ho
    · rw [List.getElem?_append_right (by rw [List.length_map]; omega)] at e'
      rw [rep_emp e'] at ho
      cases ho
/-- at an __init__'s entry -/
theorem SR.enterI {S : List Ob} {N : List Str} {ds : List D} {vs : List V} {c : Nat} {a dx : Addr} (S0' : S0 G P R S) (z : Reps G R ds vs) (hl : vs.length + 1 ≤ N.length) (hH : R.H a = some (.ins (G.C c) dx [])) (hav : R.Av a) (hnp : ¬ P a) (hnr : ∀ r, R.ρ r ≠ some a) (hc : c < G.n) (hme : G.me = some a) :
    SR G P R (L2.start N (.ref a :: vs)) ⟨.owni c [] :: (ds.map .val ++ List.replicate (N.length - (ds.length + 1)) .emp), S⟩ := by
  have l := z.length
  refine ⟨S0', ?_, fun i sl e => ?_, fun i j b h h' => ?_⟩
  · rw [start_len (by simpa using hl)]
    show (Slot.owni c [] :: (ds.map Slot.val ++ List.replicate (N.length - (ds.length + 1)) Slot.emp)).length = _
    rw [List.length_cons, List.length_append, List.length_map, List.length_replicate]; omega
  · cases i with
    | zero =>
      cases e
      exact ⟨a, dx, [], rfl, by simpa using hH, ⟨⟨Nat.zero_le _, hc⟩, hme⟩, .nil, hav, hnp, hnr⟩
    | succ i =>
      have e' : (ds.map Slot.val ++ List.replicate (N.length - (ds.length + 1)) Slot.emp)[i]? = some sl := e
      by_cases hi : i < ds.length
      · rw [List.getElem?_append_left (by rw [List.length_map]; exact hi), List.getElem?_map, List.getElem?_eq_getElem hi] at e'
        cases e'
        obtain ⟨v, h1, h2⟩ := z.get (List.getElem?_eq_getElem hi)
        refine ⟨v, ?_, h2⟩
        unfold L2.start
        rw [List.map_cons, List.cons_append, List.getElem?_cons_succ, List.getElem?_append_left (by rw [List.length_map]; omega), List.getElem?_map, h1]; rfl
      · rw [List.getElem?_append_right (by rw [List.length_map]; omega)] at e'
        rw [rep_emp e']
        trivial
  · have only : ∀ i, Owns (⟨.owni c [] :: (ds.map .val ++ List.replicate (N.length - (ds.length + 1)) .emp), S⟩ : St).env (L2.start N (.ref a :: vs)) i b → i = 0 := fun i h => by
      obtain ⟨⟨sl, e, ho⟩, _⟩ := h
      cases i with
      | zero => rfl
      | succ i =>
        have e' : (ds.map Slot.val ++ List.replicate (N.length - (ds.length + 1)) Slot.emp)[i]? = some sl := e
        exfalso
        by_cases hi : i < ds.length
        · rw [List.getElem?_append_left (by rw [List.length_map]; exact hi), List.getElem?_map, List.getElem?_eq_getElem hi] at e'
          cases e'
          cases ho
        · rw [List.getElem?_append_right (by rw [List.length_map]; omega)] at e'
          rw [rep_emp e'] at ho
          cases ho
    rw [only i h, only j h']
end
end Dn

/-! PyMe: the object that is being made plays no part in what data stand for. -/
namespace Dn
open PySem L2
variable {G : Gm} {m : Option Addr}
abbrev Gm.at_ (G : Gm) (m : Option Addr) : Gm := ⟨G.K, G.C, G.N, G.n, G.X, m⟩
mutual
theorem rep_me' {R : Rl} : ∀ (d : D) (x : V), Rep (G.at_ m) R d x ↔ Rep G R d x
  | .non, x | .bl _, x | .int _, x | .str _, x | .ty _, x | .cls _, x | .slt _, x | .ref _, x => by unfold Rep; exact Iff.rfl
  | .tup ds, x => by
    unfold Rep
    exact exists_congr fun a => exists_congr fun xs => and_congr Iff.rfl (and_congr Iff.rfl (reps_me' ds xs))
  | .lst ds, x => by
    unfold Rep
    exact exists_congr fun a => exists_congr fun xs => and_congr Iff.rfl (and_congr Iff.rfl (and_congr Iff.rfl (reps_me' ds xs)))
  | .ins c fs, x => by
    unfold Rep
    exact exists_congr fun a => exists_congr fun dx => exists_congr fun xs => and_congr Iff.rfl (and_congr Iff.rfl (and_congr Iff.rfl (and_congr Iff.rfl (reps_me' fs xs))))
theorem reps_me' {R : Rl} : ∀ (ds : List D) (xs : List V), Reps (G.at_ m) R ds xs ↔ Reps G R ds xs
  | [], xs => by unfold Reps; exact Iff.rfl
  | d :: r, xs => by
    unfold Reps
    exact exists_congr fun y => exists_congr fun ys => and_congr Iff.rfl (and_congr (rep_me' d y) (reps_me' r ys))
end
theorem rep_me : Rep (G.at_ m) = Rep G := by
  funext R d x; exact propext (rep_me' d x)
theorem reps_me : Reps (G.at_ m) = Reps G := by
  funext R d x; exact propext (reps_me' d x)
theorem obj_me : ObjRel (G.at_ m) = ObjRel G := by
  funext R a o
  cases o with
  | lst ds => unfold ObjRel; rw [reps_me]
  | ins c fs => unfold ObjRel; rw [reps_me]; rfl
theorem s0_me' {P : Addr → Prop} {R : Rl} {S : List Ob} : S0 (G.at_ m) P R S ↔ S0 G P R S := by
  constructor
  · intro h
    exact ⟨fun r o e => by have q := h.sto r o e; rw [obj_me] at q; exact q, h.dom, h.inj, h.av, h.pr⟩
  · intro h
    exact ⟨fun r o e => by rw [obj_me]; exact h.sto r o e, h.dom, h.inj, h.av, h.pr⟩
theorem s0_me : S0 (G.at_ m) = S0 G := by
  funext P R S; exact propext s0_me'
theorem sp_me {T : Tab} {k f n : Nat} : spF T (G.at_ m) k f n = spF T G k f n := by
  unfold spF wpC Kv Ki
  simp only [rep_me, reps_me, s0_me]
  rfl
theorem gok_me (h : GOk G) : GOk (G.at_ m) := ⟨h.cls, h.noat, h.nd, h.few, h.ty, fun d t b h1 h2 h3 => by
  have q := h.kit d t b h1 h2 h3
  have e1 : tyVal (G.at_ m) d = tyVal G d := by cases d <;> rfl
  have e2 : clsVal (G.at_ m) t = clsVal G t := by cases t <;> rfl
  rw [e1, e2]; exact q⟩
theorem fnm_me {T : Tab} {nm : Nat → Str} (h : FNm T G nm) : FNm T (G.at_ m) nm := ⟨h.names⟩
theorem call_me {X : Cx} {T : Tab} {k f : Nat} {x : Str} {ds : List D} (h : CallOk X T G k f x ds) : CallOk X T (G.at_ m) k f x ds := by
  obtain ⟨fa, fd, ps, dvs, vals, h1, h2, h3, h4, h5, h6, h7⟩ := h.ex
  exact ⟨fa, fd, ps, dvs, vals, h1, h2, by rw [sp_me]; exact h3, h4, h5, by rw [reps_me]; exact h6, h7⟩
theorem new_me {X : Cx} {T : Tab} {k c f : Nat} {x : Str} (h : NewOk X T G k c f x) : NewOk X T (G.at_ m) k c f x := by
  obtain ⟨fa, fd, ps, h1, h2, h3, h4, h5⟩ := h.ex
  exact ⟨fa, fd, ps, h1, h2, by rw [sp_me]; exact h3, h4, h5⟩
theorem kw_me {X : Cx} {T : Tab} {k f n : Nat} {x : Str} {ks : List Str} {ix : List Nat} (h : KwOk X T G k f x n ks ix) : KwOk X T (G.at_ m) k f x n ks ix := by
  obtain ⟨fa, fd, ps, h1, h2, h3, h4, h5⟩ := h.ex
  exact ⟨fa, fd, ps, h1, h2, by rw [sp_me]; exact h3, h4, h5⟩
theorem xok_me {T : Tab} {k : Nat} {nm : Nat → Str} {ck : Ck} {W : WX} {X : Cx} (h : XOk ⟨T, G, k, nm⟩ ck W X) : XOk ⟨T, G.at_ m, k, nm⟩ ck W X :=
  ⟨h.hN, h.nd, h.sc, h.K, h.calm, h.tk, h.room, h.fn, h.gi, h.bl, fun f x ds a b => call_me (h.calls f x ds a b), fun c f x a b d => ⟨(h.news c f x a b d).1, fun j hj => new_me ((h.news c f x a b d).2 j hj)⟩, h.cls, h.kps, gok_me h.ok, fnm_me h.fnm, h.nms, fun f n x ks ix a b => kw_me (h.kcalls f n x ks ix a b)⟩
end Dn

/-! PyFun2: the depths, one behind another. -/
namespace Dn
open PySem L2
/-- what is known of the program -/
structure Env1 (p : Prg) (K : PySem.W.Frag) (mg : Str → Option Value) (fdf : Nat → FuncData) : Prop where
  okP : p.okP = true
  okD : ∀ (i : Nat) d, p.defs[i]? = some d → p.okD d = true
  bnd : ∀ (i : Nat) d, p.defs[i]? = some d → BindOk d
  chk : p.chk K = true
  fn : ∀ (i : Nat) d, p.defs[i]? = some d → d.Fun K (fdf i)
  ns : ∃ h : Heap, K.In h ∧ h.Ns mainGlobals mg
  kbn : ∀ f n ks ix, (f, n, ks, ix) ∈ p.kbs → ∀ d, p.defs[f]? = some d → KwBok d n ks ix
section
variable {P : Program} {w : World} {p : Prg} {K : PySem.W.Frag} {mg : Str → Option Value} {base : Heap} {fdf : Nat → FuncData}
def Lv (P : Program) (w : World) (p : Prg) (K : PySem.W.Frag) (mg : Str → Option Value) (base : Heap) (fdf : Nat → FuncData) (k : Nat) : Prop :=
  ∀ (i : Nat) d, p.defs[i]? = some d → FnOk P w K mg base (L2.CX P w) k (He.fAd K d.at_) (fdf i) d.ps (spF p.T (p.G K) k i d.ps.length)
theorem okD_np {d : Def} (h : p.okD d = true) : d.ps.length = d.fn.np ∧ d.fn.nn = d.N.length ∧ d.fn.np ≤ d.N.length := by
  unfold Prg.okD at h
  simp only [Bool.and_eq_true, decide_eq_true_eq] at h
  obtain ⟨⟨⟨⟨h1, h2⟩, h3⟩, h4⟩, h5⟩ := h
  refine ⟨?_, h3, h4⟩
  unfold Def.ps
  rw [List.length_take]; omega
theorem T_fns {i : Nat} {d : Def} (h : p.defs[i]? = some d) : p.T.fns[i]? = some d.fn := by
  show (p.defs.map (·.fn))[i]? = _
  rw [List.getElem?_map, h]; rfl
theorem glo_of (e : Env1 p K mg fdf) {i : Nat} {d : Def} {x : Str} (h : p.defs[i]? = some d) (ha : atName d.at_ = some x) : mg x = some (.ref (He.fAd K d.at_)) := by
  obtain ⟨hp, KX, G⟩ := e.ns
  have c := e.chk
  unfold Prg.chk at c
  simp only [Bool.and_eq_true] at c
  have q := List.all_eq_true.mp c.1.1.1.1.1 d (List.mem_of_getElem? h)
  obtain ⟨⟨y, m⟩, _⟩ := d
  cases m with
  | none =>
    cases ha
    exact He.glo_ok KX G q
  | some m => cases ha
theorem call_of (e : Env1 p K mg fdf) {k : Nat} (lv : Lv P w p K mg base fdf k) {X : Cx} (h1 : X.prog = P) (h2 : X.w = w) (h3 : X.K = K) (h4 : X.mg = mg) (h5 : X.base = base) (d0 : Def) (f : Nat) (x : Str) (ds : List D) (hf : (p.ck d0).fns[f]? = some (some x)) (hd : ds ∈ ((p.ck d0).dfl[f]?.getD [])) :
    CallOk X p.T (p.G K) k f x ds := by
  subst h1 h2 h3 h4 h5
  have hf' : (p.defs.map fun d => atName d.at_)[f]? = some (some x) := hf
  rw [List.getElem?_map] at hf'
  obtain ⟨d, hd1, ha⟩ := Option.map_eq_some_iff.mp hf'
  have hd' : ds ∈ (((p.defs.map fun d => drops d.dds)[f]?).getD []) := hd
  rw [List.getElem?_map, hd1] at hd'
  obtain ⟨j, hj, rfl⟩ := List.mem_map.mp (show ds ∈ drops d.dds from hd')
  have hj' : j ≤ d.dds.length := by have := List.mem_range.mp hj; omega
  obtain ⟨vals, v1, b1⟩ := e.bnd f d hd1 X.K (fdf f) (e.fn f d hd1) j hj'
  obtain ⟨n1, n2, n3⟩ := okD_np (e.okD f d hd1)
  have bs : d.dds.all D.base = true := by
    have q := e.okD f d hd1
    unfold Prg.okD at q
    simp only [Bool.and_eq_true] at q
    exact q.2
  refine ⟨_, fdf f, d.ps, _, vals, glo_of e hd1 ha, (e.fn f d hd1).kp, lv f d hd1, b1, v1, fun R => ?_, d.fn, T_fns hd1, n1.symm⟩
  have r : Reps (p.G X.K) R (d.dds.drop j) ((d.dds.drop j).map fun d => (dvOf d).v (p.G X.K).K) := dv_reps (List.all_eq_true.mpr fun y hy => List.all_eq_true.mp bs y (List.mem_of_mem_drop hy))
  have e2 : ((d.toD).dvs X.K).drop j = (d.dds.drop j).map fun d => (dvOf d).v (p.G X.K).K := by
    show ((d.dds.map dvOf).map (He.Dv.v X.K)).drop j = _
    rw [List.map_map, List.map_drop]; rfl
  rw [e2]
  exact r
theorem kcall_of (e : Env1 p K mg fdf) {k : Nat} (lv : Lv P w p K mg base fdf k) {X : Cx} (h1 : X.prog = P) (h2 : X.w = w) (h3 : X.K = K) (h4 : X.mg = mg) (h5 : X.base = base) (d0 : Def) (f n : Nat) (x : Str) (ks : List Str) (ix : List Nat) (hf : (p.ck d0).fns[f]? = some (some x)) (hd : (f, n, ks, ix) ∈ (p.ck d0).kbs) :
    KwOk X p.T (p.G K) k f x n ks ix := by
  subst h1 h2 h3 h4 h5
  have hf' : (p.defs.map fun d => atName d.at_)[f]? = some (some x) := hf
  rw [List.getElem?_map] at hf'
  obtain ⟨d, hd1, ha⟩ := Option.map_eq_some_iff.mp hf'
  obtain ⟨n1, n2, n3⟩ := okD_np (e.okD f d hd1)
  exact ⟨_, fdf f, d.ps, glo_of e hd1 ha, (e.fn f d hd1).kp, lv f d hd1, e.kbn f n ks ix hd d hd1 X.K (fdf f) (e.fn f d hd1), d.fn, T_fns hd1, n1.symm⟩
theorem init_at (e : Env1 p K mg fdf) {c f : Nat} {d : Def} {x : Str} (hx : p.cls[c]? = some x) (hi : p.inits[c]? = some f) (hd : p.defs[f]? = some d) : d.at_ = (x, some ("__init__" : Str)) ∧ d.dds = [] ∧ (He.Fa.mkr x).ok K = true := by
  have hc : c < p.inits.length := (List.getElem?_eq_some_iff.mp hi).1
  have q := e.okP
  unfold Prg.okP at q
  simp only [Bool.and_eq_true, decide_eq_true_eq] at q
  have q1 := List.all_eq_true.mp q.1.1.2 c (List.mem_range.mpr hc)
  rw [hi, hx] at q1
  simp only [Option.getD_some, hd, Bool.and_eq_true, decide_eq_true_eq, List.isEmpty_iff] at q1
  have c1 := e.chk
  unfold Prg.chk at c1
  simp only [Bool.and_eq_true] at c1
  have q2 := List.all_eq_true.mp c1.1.2 c (List.mem_range.mpr hc)
  rw [hi, hx] at q2
  rcases Bool.or_eq_true_iff.mp q2 with q2 | q2
  · have l := (List.getElem?_eq_some_iff.mp hd).1
    have := of_decide_eq_true q2
    simp only [Option.getD_some] at this
    omega
  · exact ⟨q1.1, q1.2, q2⟩
theorem new_of (e : Env1 p K mg fdf) {k : Nat} (lv : Lv P w p K mg base fdf k) {X : Cx} (h1 : X.prog = P) (h2 : X.w = w) (h3 : X.K = K) (h4 : X.mg = mg) (h5 : X.base = base) {c f : Nat} {x : Str} (hx : p.cls[c]? = some x) (hi : p.inits[c]? = some f) {d : Def} (hd : p.defs[f]? = some d) (hm : mg x = some (.ref (He.ga K x))) :
    NewOk X p.T (p.G K) k c f x := by
  subst h1 h2 h3 h4 h5
  obtain ⟨a1, a2, a3⟩ := init_at e hx hi hd
  obtain ⟨n1, n2, n3⟩ := okD_np (e.okD f d hd)
  obtain ⟨vals, v1, b1⟩ := e.bnd f d hd X.K (fdf f) (e.fn f d hd) 0 (Nat.zero_le _)
  have e2 : ((d.toD).dvs X.K).drop 0 = [] := by
    show ((d.dds.map dvOf).map (He.Dv.v X.K)).drop 0 = []
    rw [a2]; rfl
  rw [e2] at v1
  cases v1
  have F := lv f d hd
  have ea : He.fAd X.K d.at_ = He.ma X.K (He.ga X.K x) "__init__" := by rw [a1]; rfl
  rw [ea] at F
  refine ⟨_, fdf f, d.ps, by rw [gC hx]; exact hm, by rw [gC hx]; exact He.mkr_ok a3, F, b1, d.fn, T_fns hd, n1.symm⟩
theorem cls_glo (e : Env1 p K mg fdf) {c : Nat} {x : Str} (hx : p.cls[c]? = some x) : mg x = some (.ref (He.ga K x)) ∧ PySem.W.keepIn K (.ref (He.ga K x)) = true := by
  obtain ⟨hp, KX, G⟩ := e.ns
  have q := cls_chk e.chk hx
  unfold Prg.clsOk at q
  simp only [Bool.and_eq_true] at q
  exact ⟨He.glo_ok KX G q.1.1.1.1.1.1.1.1.1.1, q.1.1.1.1.1.1.1.2⟩
theorem lv0 (e : Env1 p K mg fdf) : Lv P w p K mg base fdf 0 := fun i d hd => by
  refine ⟨fun vs H Q E h => h.1, fun A outer s H args us vs Q E _ _ _ _ h => ?_⟩
  exfalso
  rcases h.2 with ⟨P, R, ds, S, _, _, _, h⟩ | ⟨P, R, c, a, dx, xs, ds, S, _, _, _, _, _, _, _, _, _, h⟩ <;> exact h
theorem scope_of {d : Def} (h : p.okD d = true) : FnScope d.N d.ps d.scope := by
  unfold Prg.okD at h
  simp only [Bool.and_eq_true] at h
  exact scOk_ok h.1.1.1.2
/-- a block, where no list is too long anyhow -/
def tSu (G : Gm) (W : WX) (m : M Fl) : TS := fun Dd σ H => ∃ P R s, R.H = H ∧ SR G P R σ s ∧ wpR (m s) (Pst G P R Dd) (exq G W P R)
theorem loosen {X : Cx} {G : Gm} {W : WX} {m : M Fl} {sts : List Stmt} (h : PSs X sts (tSt G W m)) : PSs X sts (tSu G W m) := PSs.weak h fun Dd σ H bn ⟨P, R, s, e, S, g⟩ => ⟨P, R, s, e, bn, S, wpR.imp g (fun _ _ q => q.bd) fun _ _ _ q => q⟩
theorem lvS (e : Env1 p K mg fdf) {k : Nat} (lv : ∀ j, j ≤ k → Lv P w p K mg base fdf j) : Lv P w p K mg base fdf (k + 1) := fun i d hd => by
  have okd := e.okD i d hd
  have S := scope_of okd
  obtain ⟨n1, n2, n3⟩ := okD_np okd
  refine (e.fn i d hd).ok S (fun vs H Q E h => h.1) fun cdv A outer s H vs Q E hr h => ?_
  have body : okSs (p.ck d) d.fn.body d.body = true := by
    unfold Prg.okD at okd
    simp only [Bool.and_eq_true] at okd
    exact okd.1.1.1.1
  obtain ⟨hp, KX, G⟩ := e.ns
  have cc := e.chk
  unfold Prg.chk at cc
  simp only [Bool.and_eq_true] at cc
  have so : SOk ⟨p.T, p.G K, k, p.nmf⟩ (p.ck d) (fun cls d _ H => E cls d H) (cxOf (L2.CX P w) P w K mg base d.N d.qual d.scope (He.fAd K d.at_) cdv A outer s H E) := {
    x := {
      hN := rfl
      nd := S.nd
      sc := rfl
      K := rfl
      calm := rfl
      tk := takes_of rfl rfl rfl rfl
      room := hr
      fn := fun _ _ => rfl
      gi := fun x i h => He.int_ok KX G (List.all_eq_true.mp cc.1.1.1.1.2 (x, i) h)
      bl := fun x h => He.free_ok KX G (List.all_eq_true.mp cc.1.1.1.2 x h)
      calls := fun f x ds h1 h2 => call_of e (lv k (Nat.le_refl _)) rfl rfl rfl rfl rfl d f x ds h1 h2
      news := fun c f x h1 h2 h3 => by
        have hf : f < p.defs.length := by
          have q : f < (p.defs.map fun d => atName d.at_).length := h3
          rw [List.length_map] at q; exact q
        exact ⟨(List.getElem?_eq_some_iff.mp h1).1, fun j hj => new_of e (lv j (by have hj' : k = j + 1 := hj; omega)) rfl rfl rfl rfl rfl h1 h2 (List.getElem?_eq_getElem hf) (cls_glo e h1).1⟩
      cls := fun c x h1 => ⟨by
        have q := (cls_glo e h1).1
        rw [gC h1]; exact q, (List.getElem?_eq_some_iff.mp h1).1⟩
      kps := fun c f x h1 h2 => by
        have q := (cls_glo e h1).2
        rw [gC h1]; exact q
      ok := g_ok e.okP e.chk
      fnm := p_fnm
      nms := fun f x h1 => by
        show (p.nm[f]?).getD Str.empty = x
        have h1' : p.nm[f]? = some x := h1
        rw [h1']; rfl
      kcalls := fun f n x ks ix h1 h2 => kcall_of e (lv k (Nat.le_refl _)) rfl rfl rfl rfl rfl d f n x ks ix h1 h2
    }
    hp := passes_of rfl
    bk := by
      show (if d.scope.kind.isAnnotationScope then ScopeKind.function else d.scope.kind) = .function
      rw [S.kind]; rfl
  }
  obtain ⟨hlen, h⟩ := h
  have hN : vs.length ≤ d.N.length := by omega
  rcases h with ⟨Pp, R, ds, S1, rfl, s0, z, g⟩ | ⟨Pp, R, c, a, dx, xs, ds, S1, rfl, rfl, s0, hH, hav, hnp, hnr, hc, z, g⟩
  · have hz := z.length
    refine ⟨_, loosen (sndSs d.fn.body _ _ _ _ body so), ?_⟩
    show tSu (p.G K) (fun cls d _ H => E cls d H) (exs p.T (orc p.T k) d.fn.body) _ _ _
    refine ⟨Pp, R, _, rfl, SR.enter s0 z hN, ?_⟩
    rw [callF_succ, T_fns hd] at g
    unfold runFn at g
    simp only at g
    rw [if_pos (by omega)] at g
    have en : d.N.length - ds.length = d.fn.nn - d.fn.np := by omega
    rw [en]
    cases q : exs p.T (orc p.T k) d.fn.body ⟨ds.map .val ++ List.replicate (d.fn.nn - d.fn.np) .emp, S1⟩ with
    | ok o s1 =>
      rw [q] at g
      cases o with
      | nx => exact fun σ' R' h1 h2 h3 => g .non R' h1 h2 h3.st Rep.non
      | rt v => exact fun x σ' R' h1 h2 h3 h4 => g x R' h1 h2 h3.st h4
      | bk => exact g.elim
      | ct => exact g.elim
    | exc c a s1 =>
      rw [q] at g
      exact fun R' σ' dd x h1 h2 h3 h4 => g R' dd x h1 h2.st h3 h4
    | bad => rw [q] at g; exact g.elim
  · have hz := z.length
    simp only [List.length_cons] at hlen hN
    have so' : SOk ⟨p.T, (p.G K).at_ (some a), k, p.nmf⟩ (p.ck d) (fun cls d _ H => E cls d H) (cxOf (L2.CX P w) P w K mg base d.N d.qual d.scope (He.fAd K d.at_) cdv A outer s R.H E) := ⟨xok_me so.x, so.hp, so.bk⟩
    refine ⟨_, loosen (sndSs d.fn.body _ _ _ _ body so'), ?_⟩
    show tSu ((p.G K).at_ (some a)) (fun cls d _ H => E cls d H) (exs p.T (orc p.T k) d.fn.body) _ _ _
    refine ⟨Pp, R, _, rfl, SR.enterI (s0_me'.mpr s0) (reps_me' _ _ |>.mpr z) hN hH hav hnp hnr hc rfl, ?_⟩
    rw [callF_succ, T_fns hd] at g
    unfold runFn at g
    simp only at g
    rw [if_pos (by omega)] at g
    have en : d.N.length - (ds.length + 1) = d.fn.nn - d.fn.np := by omega
    rw [en]
    rw [List.cons_append] at g
    cases q : exs p.T (orc p.T k) d.fn.body ⟨.owni c [] :: (ds.map .val ++ List.replicate (d.fn.nn - d.fn.np) .emp), S1⟩ with
    | ok o s1 =>
      rw [q] at g
      cases o with
      | nx =>
        intro σ' R' h1 h2 h3
        simp only at g
        split at g
        · rename_i c' fs e0
          split at g
          · rename_i ec
            subst ec
            obtain ⟨b, dx', ys, e1, k1, k2, k3, k4, k5, k6⟩ := h3.slot 0 _ e0
            have eb : some a = some b := k2.2
            cases eb
            exact g R' fs dx' ys rfl h1 h2 (s0_me'.mp h3.st) k1 k2.1 ((reps_me' _ _).mp k3) k4 k6
          · exact g.elim
        · exact g.elim
      | rt v => exact g.elim
      | bk => exact g.elim
      | ct => exact g.elim
    | exc c a s1 =>
      rw [q] at g
      exact fun R' σ' dd x h1 h2 h3 h4 => g R' dd x h1 (s0_me'.mp h2.st) h3 ((rep_me' _ _).mp h4)
    | bad => rw [q] at g; exact g.elim
theorem lvAll (e : Env1 p K mg fdf) : ∀ k, ∀ j, j ≤ k → Lv P w p K mg base fdf j
  | 0, j, h => by
    obtain rfl : j = 0 := by omega
    exact lv0 e
  | k + 1, j, h => by
    by_cases q : j ≤ k
    · exact lvAll e k j q
    · obtain rfl : j = k + 1 := by omega
      exact lvS e (lvAll e k)
end
end Dn

/-! PyEnd: a law over the small language. -/
namespace Dn
open PySem PySem.Spec PyProof.Rows L2
/-! ### the heap's part that is looked at: no lists in it -/
def isLst (o : Obj) : Bool := decide (o.cls = .type "list")
def frL (g : Addr → Option Obj) (as : List Addr) : PySem.W.Frag := as.filterMap fun a => (g a).bind fun o => if isLst o then none else some (a, o)
theorem frL_at {g : Addr → Option Obj} {a : Addr} {o : Obj} : ∀ as : List Addr, (frL g as).lookup a = some o → g a = some o ∧ isLst o = false
  | [], e => nomatch (show (none : Option Obj) = some o from e)
  | b :: r, e => by
    unfold frL at e
    rw [List.filterMap_cons] at e
    split at e
    · exact frL_at r e
    · rename_i p hp
      obtain ⟨ob, h1, h2⟩ := Option.bind_eq_some_iff.mp hp
      split at h2
      · cases h2
      · rename_i hl
        cases h2
        rw [List.lookup_cons] at e
        split at e
        · rename_i hab
          cases e
          rw [beq_iff_eq.mp hab]
          exact ⟨h1, by simpa using hl⟩
        · exact frL_at r e
def noLst (K : PySem.W.Frag) : Prop := ∀ a o, K.lookup a = some o → isLst o = false
abbrev AlP : Type := Bool × List He.FnW
def Prg.obs (p : Prg) (K : PySem.W.Frag) : AlP := (p.chk K && p.defs.all fun d => d.toD.ok K, p.defs.map fun d => He.fnW K d.at_)
def Prg.val (p : Prg) : AlP := (true, p.defs.map fun d => d.toD.val)
def Prg.obsG (p : Prg) (n : Nat) (g : Addr → Option Obj) : AlP := p.obs (frL g (He.asD g n))
def Prg.hook (p : Prg) (n : Nat) : PySem.W.Hook where
  α := AlP
  obs := fun s => p.obsG n s.heap.get?
  val := fun _ => p.val
  says := fun _ h => ∃ K : PySem.W.Frag, K.In h ∧ noLst K ∧ p.obs K = p.val
  of := fun _ _ e => ⟨_, fun _ _ q => (frL_at _ q).1, fun _ _ q => (frL_at _ q).2, e⟩
  keeps := fun _ _ _ ⟨K, hK, hn, c⟩ k => ⟨K, PySem.W.Frag.In.keeps hK k, hn, c⟩
theorem Prg.obsG_eq {p : Prg} {n : Nat} {g : Addr → Option Obj} {s : Shared} (h : ∀ a, g a = s.heap.get? a) : p.obsG n g = (p.hook n).obs s := by
  rw [show g = s.heap.get? from funext h]; rfl
theorem fun_of {p : Prg} {K : PySem.W.Frag} (e : p.obs K = p.val) : p.chk K = true ∧ ∀ (i : Nat) d, p.defs[i]? = some d → ∃ fd, d.Fun K fd := by
  have e1 : (p.chk K && p.defs.all fun d => d.toD.ok K) = true := congrArg (fun z : AlP => z.1) e
  have e2 : (p.defs.map fun d => He.fnW K d.at_) = p.defs.map fun d => d.toD.val := congrArg (fun z : AlP => z.2) e
  obtain ⟨c1, c2⟩ := Bool.and_eq_true_iff.mp e1
  refine ⟨c1, fun i d h => ?_⟩
  have q : (p.defs.map fun d => He.fnW K d.at_)[i]? = (p.defs.map fun d => d.toD.val)[i]? := by rw [e2]
  rw [List.getElem?_map, List.getElem?_map, h] at q
  exact He.DefD.funD (d := d.toD) (Option.some.inj q) (List.all_eq_true.mp c2 d (List.mem_of_getElem? h))
/-! ### the script -/
theorem reps_ints {G : Gm} {R : Rl} : ∀ ns : List Int, Reps G R (ns.map .int) (ns.map V.int)
  | [] => .nil
  | n :: r => .cons Rep.int (reps_ints r)
theorem S0.empty {G : Gm} {H : Hp} : S0 G (fun _ => False) ⟨fun _ => none, fun _ => False, H⟩ [] :=
  ⟨fun r o h => (by simp at h), fun r a h => (by cases h), fun r r' a h => (by cases h), fun a h => False.elim h, fun a h => h⟩
theorem law_sp {p : Prg} {K : PySem.W.Frag} {H : Hp} {a : Addr} {ns : List Int} {lv i : Nat} (hn : noLst K) (hs : SqL K H a (ns.map V.int)) {S : List Ob} (h : callF p.T lv i none [.lst (ns.map .int)] [] = .ok (.bl true) S) : spF p.T (p.G K) lv i 1 [.ref a] H (fun v _ => v = .bl true) fun _ _ _ => False := by
  have hr : Rd H a (.lst (ns.map V.int)) := by
    rcases hs with hs | ⟨o, its, n, e, c, _⟩
    · exact hs
    · have q := hn a o e
      unfold isLst at q
      rw [c] at q
      simp at q
  refine ⟨rfl, .inl ⟨fun _ => False, ⟨fun _ => none, fun _ => False, H⟩, [.lst (ns.map .int)], [], rfl, S0.empty, .cons ?_ .nil, ?_⟩⟩
  · unfold Rep
    exact ⟨a, _, rfl, fun z => z, hr, reps_ints ns⟩
  · rw [h]
    intro x R' _ _ _ hx
    unfold Rep at hx
    exact hx
def BindA (d : Def) : Prop := ∀ (K : PySem.W.Frag) (fd : FuncData), d.Fun K fd → ∀ (s : Shared) (us : List Value), us.length = d.ps.length → BindsTo s fd ⟨us, []⟩ (d.ps.zip us)
/-- one def's binding, as the generator writes it -/
theorem bind_none {d : Def} (hd : d.dds = []) (h : ∀ (kV doc pm : Value) (an : Option Addr) (cdv ct : Value) (us : List Value), us.length = d.ps.length → bindArgs (PySem.W.fnOf d.name d.qual d.params d.body d.scope .none kV doc pm an cdv ct) ⟨us, []⟩ = pure (d.ps.zip us)) :
    BindOk d ∧ BindA d := by
  have e0 : ∀ K, (d.toD).dvs K = [] := fun K => by
    show (d.dds.map dvOf).map (He.Dv.v K) = []
    rw [hd]; rfl
  refine ⟨fun K fd F j hj => ⟨[], ?_, ?_⟩, fun K fd F => ?_⟩
  · rw [e0, List.drop_nil]; exact .nil
  · have F' := F
    unfold Def.Fun at F'
    rw [e0] at F'
    exact F'.bindsN h
  · have F' := F
    unfold Def.Fun at F'
    rw [e0] at F'
    exact F'.bindsA h
theorem bind_some {d : Def} (hd : d.dds ≠ []) (h : ∀ j, j ≤ d.dds.length → ∃ n, n + (d.dds.length - j) = d.ps.length ∧ ∀ (T : Addr) (kV doc pm : Value) (an : Option Addr) (cdv ct : Value) (us its : List Value), us.length = n → its.length = d.dds.length →
      ∃ k, bindArgs (PySem.W.fnOf d.name d.qual d.params d.body d.scope (.ref T) kV doc pm an cdv ct) ⟨us, []⟩ = seqItems? (.ref T) >>= k ∧ k (some its.toArray) = pure (d.ps.zip (us ++ its.drop j))) : BindOk d := fun K fd F j hj => by
  obtain ⟨n, h1, h2⟩ := h j hj
  have l : ((d.toD).dvs K).length = d.dds.length := by
    show ((d.dds.map dvOf).map (He.Dv.v K)).length = _
    rw [List.length_map, List.length_map]
  refine FunD.binds1 F n j (fun e => hd (List.length_eq_zero_iff.mp (by rw [← l, e]; rfl))) (by rw [l]; exact h1) fun T kV doc pm an cdv ct us its l1 l2 => h2 T kV doc pm an cdv ct us its l1 (by rw [l2, l])
theorem kw_none {d : Def} {n : Nat} {ks : List Str} {ix : List Nat} (hd : d.dds = []) (h : ∀ (kV doc pm : Value) (an : Option Addr) (cdv ct : Value) (us ws : List Value), us.length = n → ws.length = ks.length → bindArgs (PySem.W.fnOf d.name d.qual d.params d.body d.scope .none kV doc pm an cdv ct) ⟨us, ks.zip ws⟩ = pure (d.ps.zip (pk ix (us ++ ws)))) : KwBok d n ks ix := by
  intro K fd F s us ws KX h1 h2
  have hdv : (d.toD).dvs K = [] := by
    show (d.dds.map dvOf).map (He.Dv.v K) = []
    rw [hd]; rfl
  have F' : FunD K d.name d.qual d.params d.body d.scope [] [] (He.fAd K d.at_) fd := hdv ▸ F
  obtain ⟨oc, od, dV, kV, doc, pm, an, cdv, ct, osl, rfl, lk, hcd, hD, hK⟩ := F'.ex
  rcases hD with ⟨_, rfl⟩ | ⟨q, _⟩
  · exact .of_eq (h kV doc pm an cdv ct us ws h1 h2)
  · exact absurd rfl q
theorem kw_some {d : Def} {n : Nat} {ks : List Str} {ix : List Nat} (hd : d.dds ≠ []) (h : ∀ (T : Addr) (kV doc pm : Value) (an : Option Addr) (cdv ct : Value) (us its ws : List Value), us.length = n → its.length = d.dds.length → ws.length = ks.length →
    ∃ k, bindArgs (PySem.W.fnOf d.name d.qual d.params d.body d.scope (.ref T) kV doc pm an cdv ct) ⟨us, ks.zip ws⟩ = seqItems? (.ref T) >>= k ∧ k (some its.toArray) = pure (d.ps.zip (pk ix (us ++ ws)))) : KwBok d n ks ix := by
  intro K fd F s us ws KX h1 h2
  have hl : ((d.toD).dvs K).length = d.dds.length := by
    show ((d.dds.map dvOf).map (He.Dv.v K)).length = _
    rw [List.length_map, List.length_map]
  obtain ⟨oc, od, dV, kV, doc, pm, an, cdv, ct, osl, rfl, lk, hcd, hD, hK⟩ := F.ex
  rcases hD with ⟨q, _⟩ | ⟨_, T, o, its, m, rfl, lT, oT, rT⟩
  · rw [q] at hl
    exact absurd (List.eq_nil_of_length_eq_zero hl.symm) hd
  · obtain ⟨k, e1, e2⟩ := h T kV doc pm an cdv ct us its ws h1 (rT.length.symm.trans hl) h2
    refine BindsTo.of_looks fun M => ?_
    rw [e1]
    exact looks_items KX lT oT (.of_pure e2)
def AllP {α : Type} (P : α → Prop) : List α → Prop
  | [] => True
  | a :: r => P a ∧ AllP P r
theorem AllP.get {α : Type} {P : α → Prop} : ∀ {l : List α}, AllP P l → ∀ {i : Nat} {a : α}, l[i]? = some a → P a
  | [], _, _, _, h => by simp at h
  | b :: r, ⟨h1, h2⟩, 0, a, h => by simp at h; subst h; exact h1
  | b :: r, ⟨h1, h2⟩, i + 1, a, h => AllP.get h2 (by simpa using h)
/-- THE END: the law's def answers True at every script -/
theorem py_walk {l : PySem.W.OpenLaw} {p : Prg} {n m lv i : Nat} {q : Program} {loose : List Str} {XP : (Str → Option Value) → Heap → Prop} {d : DefRec} {x : Str} {dd : Def} (hn : l.most = some n) (hn2 : n ≤ sizeLine) (hdf : d.params.defaults = []) (hr : Room lv callerA)
    (hi : p.defs[i]? = some dd) (hat : dd.at_ = (d.name, none)) (hps : dd.ps = [x]) (okP : p.okP = true) (okD : AllP (fun d => p.okD d = true) p.defs) (bnd : AllP BindOk p.defs) (kbd : AllP (fun q : Nat × Nat × List Str × List Nat => ∀ d, p.defs[q.1]? = some d → KwBok d q.2.1 q.2.2.1 q.2.2.2) p.kbs)
    (bl : BindA dd)
    (law : ∀ ns : List Int, ns.length ≤ n → ∃ S, callF p.T lv i none [.lst (ns.map .int)] [] = .ok (.bl true) S) :
    PySem.W.WalkO q loose XP (p.hook m).says l.row.toRowW d [] (fun f vs => PySem.call f vs) := by
  refine Att.attach_call hn hdf fun w s₀ s₁ mg mb fa o pm cd doc a vs ns G Y ho hd hcd hmg hobj hints hlen hg => ?_
  obtain ⟨K, KX, nl, e⟩ := Y
  obtain ⟨ck, fs⟩ := fun_of e
  have ex : ∃ fdf : Nat → FuncData, ∀ (i : Nat) d, p.defs[i]? = some d → d.Fun K (fdf i) := by
    refine Classical.axiomOfChoice (r := fun (i : Nat) (fd : FuncData) => ∀ d : Def, p.defs[i]? = some d → d.Fun K fd) fun i => ?_
    cases h : p.defs[i]? with
    | none => exact ⟨Classical.choose (fs _ _ hi), fun d h' => nomatch h'⟩
    | some d =>
      obtain ⟨fd, hf⟩ := fs i d h
      exact ⟨fd, fun d' h' => by cases h'; exact hf⟩
  obtain ⟨fdf, F⟩ := ex
  have e1 : Env1 p K mg fdf := ⟨okP, fun i d h => okD.get h, fun i d h => bnd.get h, ck, F, ⟨_, KX, G.T.g⟩, fun f n ks ix h d hd => by
    obtain ⟨i, hi⟩ := List.getElem?_of_mem h
    exact kbd.get hi d hd⟩
  have ga : mg d.name = some (.ref (He.fAd K dd.at_)) := glo_of e1 hi (by rw [hat]; rfl)
  have efa : He.fAd K dd.at_ = fa := by
    rw [hmg] at ga; cases ga; rfl
  refine law_call (CX := L2.CX l.prog w) (sp := spF p.T (p.G K) lv i 1) (x := x) (fd := fdf i) (k := lv) KX G.T.g G.T.b G.T.builtins G.T.nolimit hg hobj hints (Nat.le_trans hlen hn2) hr (fun base _ _ => ?_) (fun s u => ?_) (fun H _ hS => ?_) fun H e s' h => ?_
  · have L := lvAll (P := l.prog) (w := w) (base := base) e1 lv lv (Nat.le_refl _) i dd hi
    rw [hps, efa] at L
    exact L
  · have b := bl K (fdf i) (F i dd hi) s [u] (by rw [hps]; rfl)
    rw [hps] at b
    exact b
  · obtain ⟨S, hS'⟩ := law ns hlen
    exact law_sp nl hS hS'
  · obtain ⟨_, _, _, _, _, _, _, _, _, _, _, _, hE⟩ := h
    exact hE
end Dn

/-! PyRun: running the small language by rewriting. -/
namespace Dn
open PySem
def outOf : Rs Fl → RC
  | .ok (.rt d) s => .ok d s.sto
  | .ok .nx s => .ok .non s.sto
  | .ok _ _ => .bad
  | .exc c a s => .exc c a s.sto
  | .bad => .bad
theorem callF_eq {T : Tab} {k f : Nat} {fn : Fn} {ds : List D} {S : List Ob} (hf : T.fns[f]? = some fn) (hl : ds.length = fn.np) : callF T (k + 1) f none ds S = outOf (exs T (orc T k) fn.body ⟨ds.map .val ++ List.replicate (fn.nn - fn.np) .emp, S⟩) := by
  rw [callF_succ, hf]
  unfold runFn
  simp only [hl, if_true]
  unfold outOf
  split <;> first | rfl | simp_all
theorem orc_none {T : Tab} {k f : Nat} {ds : List D} {S : List Ob} : orc T (k + 1) f none ds S = callF T (k + 1) f none ds S := rfl
theorem orc_some {T : Tab} {k f c : Nat} {ds : List D} {S : List Ob} : orc T (k + 1) f (some c) ds S = callF T k f (some c) ds S := rfl
/-- a comprehension's turn -/
def compF (T : Tab) (O : Orc) (vs : List Nat) (t : Tg) (cs : Es) (e : E) (d : D) : M (Option D) := seq (wipeM vs) fun _ => seq (asg T O t d) fun _ => seq (evTs T O cs) fun c => if c then seq (ev T O false e) fun y => ret (some y) else ret none
theorem evOwn_comp {T : Tab} {O : Orc} {vs : List Nat} {t : Tg} {it : It} {cs : Es} {e : E} {s s0 s1 : St} {k : Tok} {ds : List D} (hit : evIt T O it s = .ok k s0) (hw : wipable s0.env vs = true) (h : compLoop k.ok (compF T O vs t cs e) k.items { s0 with env := wipeE s0.env vs } = .ok ds s1) :
    evOwn T O (.comp vs t it cs e) s = .ok ds { s1 with env := restore s0.env s1.env vs } := by
  show (evIt T O it s).bind (fun k => blk vs (compLoop k.ok (compF T O vs t cs e) k.items)) = _
  rw [hit]
  show blk vs (compLoop k.ok (compF T O vs t cs e) k.items) s0 = _
  unfold blk
  rw [if_pos hw, h]
theorem ev_comp {T : Tab} {O : Orc} {b : Bool} {vs : List Nat} {t : Tg} {it : It} {cs : Es} {e : E} {s s0 s1 : St} {k : Tok} {ds : List D} (hit : evIt T O it s = .ok k s0) (hw : wipable s0.env vs = true) (h : compLoop k.ok (compF T O vs t cs e) k.items { s0 with env := wipeE s0.env vs } = .ok ds s1) :
    ev T O b (.comp vs t it cs e) s = .ok (.lst ds) { s1 with env := restore s0.env s1.env vs } := by
  have q := evOwn_comp (T := T) (O := O) (vs := vs) (t := t) (cs := cs) (e := e) hit hw h
  have e1 : ev T O b (.comp vs t it cs e) = seq (evOwn T O (.comp vs t it cs e)) fun ds => ret (.lst ds) := by
    funext s
    show (evIt T O it s).bind _ = ((evIt T O it s).bind _).bind _
    cases evIt T O it s <;> rfl
  rw [e1]
  unfold seq
  rw [q]
  rfl
/-- a for's turn -/
def forF (T : Tab) (O : Orc) (t : Tg) (b : Ss) (d : D) : M Fl := seq (asg T O t d) fun _ => exs T O b
theorem ex_fors {T : Tab} {O : Orc} {t : Tg} {it : It} {b : Ss} {s s0 : St} {k : Tok} (hit : evIt T O it s = .ok k s0) : ex T O (.fors t it b) s = forLoop k.ok (forF T O t b) k.items s0 := by
  show (evIt T O it s).bind _ = _
  rw [hit]
  rfl
/-! ### loops by an invariant -/
theorem compLoop_inv {chk : St → Bool} {f : D → M (Option D)} (I : List D → List D → St → Prop) (hd : ∀ acc s, I [] acc s → chk s = true)
    (hs : ∀ d ds acc s, I (d :: ds) acc s → chk s = true ∧ ∃ y s', f d s = .ok y s' ∧ I ds (acc ++ y.toList) s') : ∀ (ds acc : List D) (s : St), I ds acc s → ∃ ys s', compLoop chk f ds s = .ok ys s' ∧ I [] (acc ++ ys) s'
  | [], acc, s, h => ⟨[], s, by unfold compLoop; rw [hd acc s h]; rfl, by rw [List.append_nil]; exact h⟩
  | d :: ds, acc, s, h => by
    obtain ⟨c, y, s1, e1, h1⟩ := hs d ds acc s h
    obtain ⟨ys, s2, e2, h2⟩ := compLoop_inv I hd hs ds (acc ++ y.toList) s1 h1
    refine ⟨y.toList ++ ys, s2, ?_, by rw [← List.append_assoc]; exact h2⟩
    unfold compLoop
    simp only [c, if_true]
    unfold seq
    rw [e1]
    unfold Rs.bind
    simp only
    rw [e2]
    cases y <;> rfl
/-- a loop that runs through, or returns -/
theorem forLoop_inv {chk : St → Bool} {f : D → M Fl} (I : List D → St → Prop) (R : D → St → Prop) (hd : ∀ s, I [] s → chk s = true)
    (hs : ∀ d ds s, I (d :: ds) s → chk s = true ∧ ((∃ o s', f d s = .ok o s' ∧ (o = .nx ∨ o = .ct) ∧ I ds s') ∨ ∃ v s', f d s = .ok (.rt v) s' ∧ R v s')) : ∀ (ds : List D) (s : St), I ds s → (∃ s', forLoop chk f ds s = .ok .nx s' ∧ I [] s') ∨ ∃ v s', forLoop chk f ds s = .ok (.rt v) s' ∧ R v s'
  | [], s, h => .inl ⟨s, by unfold forLoop; rw [hd s h]; rfl, h⟩
  | d :: ds, s, h => by
    obtain ⟨c, h1⟩ := hs d ds s h
    rcases h1 with ⟨o, s1, e1, ho, h1⟩ | ⟨v, s1, e1, h1⟩
    · have key : forLoop chk f (d :: ds) s = forLoop chk f ds s1 := by
        rw [forLoop]
        simp only [c, if_true]
        unfold seq
        rw [e1]
        rcases ho with rfl | rfl <;> rfl
      rw [key]
      exact forLoop_inv I R hd hs ds s1 h1
    · refine .inr ⟨v, s1, ?_, h1⟩
      rw [forLoop]
      simp only [c, if_true]
      unfold seq
      rw [e1]
      rfl
/-- .. that always runs through -/
theorem forLoop_all {chk : St → Bool} {f : D → M Fl} (I : List D → St → Prop) (hd : ∀ s, I [] s → chk s = true)
    (hs : ∀ d ds s, I (d :: ds) s → chk s = true ∧ ∃ o s', f d s = .ok o s' ∧ (o = .nx ∨ o = .ct) ∧ I ds s') (ds : List D) (s : St) (h : I ds s) : ∃ s', forLoop chk f ds s = .ok .nx s' ∧ I [] s' := by
  rcases forLoop_inv I (fun _ _ => False) hd (fun d ds s h => ⟨(hs d ds s h).1, .inl (hs d ds s h).2⟩) ds s h with h | ⟨_, _, _, h⟩
  · exact h
  · exact h.elim
end Dn

/-! PyWp: what must hold so that a run ends well: one equation a construct, for simp. -/
namespace Dn
open PySem
/-- holds its index fast: simp does not look into K of `WP K t m` -/
inductive Tag {α : Type} (K : α → St → Prop) : Type where | mk
/-- m ends with a value and a state of which K holds -/
def WP {α : Type} (K : α → St → Prop) (_ : Tag K) (m : Rs α) : Prop := ∃ a s, m = .ok a s ∧ K a s
inductive TagC (P : D → List Ob → Prop) : Type where | mk
def CP (P : D → List Ob → Prop) (_ : TagC P) (m : RC) : Prop := ∃ d S, m = .ok d S ∧ P d S
def optS {α : Type} (o : Option α) (s : St) : Rs α := match o with
  | some d => .ok d s
  | none => .bad
def needS {α : Type} (c : Prop) (r : Rs α) : Rs α := r
def getS (b : Bool) (i : Nat) (x : Slot) (s : St) : Rs D := match x with
  | .val d => .ok d s
  | .own ds => if b then .ok (.slt i) s else .ok (.lst ds) (s.put i (.val (.lst ds)))
  | .owni c fs => if b then .ok (.slt i) s else .ok (.ins c fs) (s.put i (.val (.ins c fs)))
  | .emp => .bad
def look (env : List Slot) (i : Nat) : Slot := (env[i]?).getD .emp
def hasS (env : List Slot) (i : Nat) : Bool := decide (i < env.length)
def viewS (x : Slot) (d : D) : D := match x with
  | .own ds => .lst ds
  | .owni c fs => .ins c fs
  | _ => d
def viewO (x : Option Ob) (d : D) : D := match x with
  | some (.lst ds) => .lst ds
  | some (.ins c fs) => .ins c fs
  | none => d
section
variable {α β : Type} {K : α → St → Prop} {t : Tag K}
theorem wp_ok {a : α} {s : St} : WP K t (.ok a s) = K a s := by
  unfold WP
  apply propext
  constructor
  · rintro ⟨a', s', h, h'⟩; cases h; exact h'
  · intro h; exact ⟨_, _, rfl, h⟩
theorem wp_bad : WP K t (.bad) = False := by
  apply propext
  constructor
  · rintro ⟨a', s', h, _⟩; cases h
  · intro h; exact h.elim
theorem wp_bind {r : Rs β} {f : β → M α} : WP K t (r.bind f) = WP (fun a s => WP K .mk (f a s)) .mk r := by
  cases r with
  | ok a s => rw [wp_ok]; rfl
  | exc c a s =>
    apply propext
    constructor
    · rintro ⟨_, _, h, _⟩; cases h
    · rintro ⟨_, _, h, _⟩; cases h
  | bad => rw [wp_bad]; exact wp_bad
theorem wp_seq {m : M β} {f : β → M α} {s : St} : WP K t (seq m f s) = WP (fun a s => WP K .mk (f a s)) .mk (m s) := wp_bind
theorem wp_mono {K' : α → St → Prop} {m : Rs α} (h : WP K t m) (h' : ∀ a s, K a s → K' a s) {t' : Tag K'} : WP K' t' m := by
  obtain ⟨a, s, e, k⟩ := h
  exact ⟨a, s, e, h' _ _ k⟩
theorem wp_if {c : Prop} [Decidable c] {x y : Rs α} : WP K t (if c then x else y) = ((c → WP K t x) ∧ (¬c → WP K t y)) := by
  apply propext
  by_cases h : c
  · simp [h]
  · simp [h]
theorem wp_opt {f : St → Option α} {s : St} : WP K t (opt f s) = WP K t (optS (f s) s) := by rfl
theorem wp_ret {a : α} {s : St} : WP K t (Dn.ret a s) = K a s := wp_ok
theorem wp_some {a : α} {s : St} : WP K t (optS (some a) s) = K a s := wp_ok
theorem wp_none {s : St} : WP K t (optS none s) = False := wp_bad
theorem wp_ifS {c : Prop} [Decidable c] {x : Option α} {s : St} : WP K t (optS (if c then x else none) s) = (c ∧ WP K t (optS x s)) := by
  apply propext
  by_cases h : c
  · simp [h]
  · simp [h]; rw [wp_none]; exact not_false
end
def WQ {α : Type} (K : α → St → Prop) (m : Rs α) : Prop := ∃ a s, m = .ok a s ∧ K a s
theorem wq {α : Type} {K : α → St → Prop} {t : Tag K} {m : Rs α} : WP K t m = WQ K m := id rfl
section
variable {α β : Type} {K : α → St → Prop}
theorem wq_ok {a : α} {s : St} : WQ K (.ok a s) = K a s := wp_ok (t := .mk)
theorem wq_bad : WQ K .bad = False := wp_bad (t := .mk)
theorem wq_bind {r : Rs β} {f : β → M α} : WQ K (r.bind f) = WQ (fun a s => WQ K (f a s)) r := wp_bind (t := .mk)
theorem wq_seq {m : M β} {f : β → M α} {s : St} : WQ K (seq m f s) = WQ (fun a s => WQ K (f a s)) (m s) := wp_seq (t := .mk)
theorem wq_opt {f : St → Option α} {s : St} : WQ K (opt f s) = WQ K (optS (f s) s) := id rfl
theorem wq_ret {a : α} {s : St} : WQ K (Dn.ret a s) = K a s := wp_ok (t := .mk)
theorem wq_if {c : Prop} [Decidable c] {x y : Rs α} : WQ K (if c then x else y) = ((c → WQ K x) ∧ (¬c → WQ K y)) := wp_if (t := .mk)
end
theorem wp_ifSm {α β : Type} {K : β → St → Prop} {t : Tag K} {f : α → β} {c : Prop} [Decidable c] {x : Option α} {s : St} : WP K t (optS (Option.map f (if c then x else none)) s) = (c ∧ WP K t (optS (x.map f) s)) := by
  rw [← wp_ifS]
  by_cases h : c
  · simp [h]
  · simp [h]
theorem wp_ifSb {α β : Type} {K : β → St → Prop} {t : Tag K} {f : α → Option β} {c : Prop} [Decidable c] {x : Option α} {s : St} : WP K t (optS (Option.bind (if c then x else none) f) s) = (c ∧ WP K t (optS (x.bind f) s)) := by
  rw [← wp_ifS]
  by_cases h : c
  · simp [h]
  · simp [h]
theorem cp_of {P : D → List Ob → Prop} {t : TagC P} {m : RC} : CP P t m = ∃ d S, m = .ok d S ∧ P d S := rfl
theorem look_zero {x : Slot} {l : List Slot} : look (x :: l) 0 = x := by rfl
theorem look_succ {x : Slot} {l : List Slot} {n : Nat} : look (x :: l) (n + 1) = look l n := by unfold look; rw [List.getElem?_cons_succ]
theorem has_zero {x : Slot} {l : List Slot} : hasS (x :: l) 0 = true := by unfold hasS; simp
theorem has_succ {x : Slot} {l : List Slot} {n : Nat} : hasS (x :: l) (n + 1) = hasS l n := by unfold hasS; simp
theorem set_zero {x y : Slot} {l : List Slot} : (x :: l).set 0 y = y :: l := by rfl
theorem set_succ {x y : Slot} {l : List Slot} {n : Nat} : (x :: l).set (n + 1) y = x :: l.set n y := by rw [List.set_cons_succ]
theorem getv_eq {b : Bool} {i : Nat} {s : St} : getv b i s = getS b i (look s.env i) s := by
  unfold getv look getS
  cases h : s.env[i]? with
  | none => rfl
  | some x => cases x <;> rfl
theorem getS_val {b : Bool} {i : Nat} {d : D} {s : St} : getS b i (.val d) s = .ok d s := by rfl
theorem getS_ownT {i : Nat} {ds : List D} {s : St} : getS true i (.own ds) s = .ok (.slt i) s := by unfold getS; rfl
theorem getS_ownF {i : Nat} {ds : List D} {s : St} : getS false i (.own ds) s = .ok (.lst ds) ⟨s.env.set i (.val (.lst ds)), s.sto⟩ := by unfold getS; rfl
theorem getS_owniT {i c : Nat} {ds : List D} {s : St} : getS true i (.owni c ds) s = .ok (.slt i) s := by unfold getS; rfl
theorem getS_owniF {i c : Nat} {ds : List D} {s : St} : getS false i (.owni c ds) s = .ok (.ins c ds) ⟨s.env.set i (.val (.ins c ds)), s.sto⟩ := by unfold getS; rfl
/-! ### views -/
theorem view_slt {s : St} {i : Nat} : view s (.slt i) = viewS (look s.env i) (.slt i) := by
  unfold look
  show (match s.env[i]? with
    | some (.own ds) => D.lst ds
    | some (.owni c fs) => D.ins c fs
    | _ => .slt i) = _
  cases h : s.env[i]? with
  | none => rfl
  | some x => cases x <;> rfl
theorem view_ref {s : St} {r : Nat} : view s (.ref r) = viewO (s.sto[r]?) (.ref r) := by
  show (match s.sto[r]? with
    | some (.lst ds) => D.lst ds
    | some (.ins c fs) => D.ins c fs
    | none => .ref r) = _
  cases h : s.sto[r]? with
  | none => rfl
  | some x => cases x <;> rfl
theorem viewS_own {ds : List D} {d : D} : viewS (.own ds) d = .lst ds := by unfold viewS; rfl
theorem viewS_owni {c : Nat} {ds : List D} {d : D} : viewS (.owni c ds) d = .ins c ds := by unfold viewS; rfl
theorem viewO_lst {ds : List D} {d : D} : viewO (some (.lst ds)) d = .lst ds := by unfold viewO; rfl
theorem viewO_ins {c : Nat} {ds : List D} {d : D} : viewO (some (.ins c ds)) d = .ins c ds := by unfold viewO; rfl
theorem view_int {s : St} {n : Int} : view s (.int n) = .int n := by unfold view; rfl
theorem view_bl {s : St} {n : Bool} : view s (.bl n) = .bl n := by unfold view; rfl
theorem view_str {s : St} {n : Str} : view s (.str n) = .str n := by unfold view; rfl
theorem view_non {s : St} : view s .non = .non := by unfold view; rfl
theorem view_tup {s : St} {ds : List D} : view s (.tup ds) = .tup ds := by unfold view; rfl
theorem view_lst {s : St} {ds : List D} : view s (.lst ds) = .lst ds := by unfold view; rfl
theorem view_ins {s : St} {c : Nat} {ds : List D} : view s (.ins c ds) = .ins c ds := by unfold view; rfl
/-! ### expressions -/
section
variable {T : Tab} {O : Orc} {b : Bool} {x y z : E} {s : St} {K : D → St → Prop} {t : Tag K}
theorem wp_int {n : Int} : WP K t (ev T O b (.int n) s) = K (.int n) s := wp_ok
theorem wp_str {n : Str} : WP K t (ev T O b (.str n) s) = K (.str n) s := wp_ok
theorem wp_bl {n : Bool} : WP K t (ev T O b (.bl n) s) = K (.bl n) s := wp_ok
theorem wp_non : WP K t (ev T O b (.non) s) = K (.non) s := wp_ok
theorem wp_gint {g : Str} {n : Int} : WP K t (ev T O b (.gint g n) s) = K (.int n) s := wp_ok
theorem wp_gcls {n : Nat} : WP K t (ev T O b (.gcls n) s) = K (.cls n) s := wp_ok
theorem wp_var {i : Nat} : WP K t (ev T O b (.var i) s) = WP K t (getS b i (look s.env i) s) := by
  show WP K t (getv b i s) = _
  rw [getv_eq]
theorem wp_tup {es : Es} : WP K t (ev T O b (.tup es) s) = WP (fun ds s => K (.tup ds) s) .mk (evs T O es s) := by
  simp only [wq, ev, wq_seq, wq_ret]
theorem wp_lst {es : Es} : WP K t (ev T O b (.lst es) s) = WP (fun ds s => K (.lst ds) s) .mk (evs T O es s) := by
  simp only [wq, ev, wq_seq, wq_ret]
theorem wp_bin {o : Op2} : WP K t (ev T O b (.bin o x y) s) = WP (fun u s => WP (fun v s => WP K .mk (optS (bin o (view s u) (view s v)) s)) .mk (ev T O true y s)) .mk (ev T O true x s) := by
  simp only [wq, ev, wq_seq, wq_opt]
theorem wp_neg : WP K t (ev T O b (.neg x) s) = WP (fun u s => WP K .mk (optS (u.int?.map fun i => D.int (-i)) s)) .mk (ev T O true x s) := by
  simp only [wq, ev, wq_seq, wq_opt]
theorem wp_cmp {o : COp} : WP K t (ev T O b (.cmp o x y) s) = WP (fun u s => WP (fun v s => WP K .mk (optS ((cmpD o (view s u) (view s v)).map D.bl) s)) .mk (ev T O true y s)) .mk (ev T O true x s) := by
  simp only [wq, ev, wq_seq, wq_opt]
theorem wp_isc {ng : Bool} : WP K t (ev T O b (.isc ng x y) s) = WP (fun u s => WP (fun v s => WP K .mk (optS ((isD u v).map fun c => D.bl (if ng then !c else c)) s)) .mk (ev T O true y s)) .mk (ev T O true x s) := by
  simp only [wq, ev, wq_seq, wq_opt]
/-- what follows a condition -/
def brS {α : Type} (u : D) (p q : Rs α) : Rs α := match u with
  | .bl true => p
  | .bl false => q
  | _ => .bad
def cbr {α : Type} (c : Bool) (p q : Rs α) : Rs α := if c then p else q
theorem wp_chain {o o' : COp} : WP K t (ev T O b (.chain o o' x y z) s) = WP (fun u s => WP (fun v s => WP (fun c s => WP K .mk (cbr c ((ev T O true z s).bind fun w s => optS ((cmpD o' (view s v) (view s w)).map D.bl) s) (.ok (.bl false) s))) .mk (optS (cmpD o (view s u) (view s v)) s)) .mk (ev T O true y s)) .mk (ev T O true x s) := by
  simp only [wq, ev, wq_seq, wq_opt]
  congr 1; funext u s1; congr 1; funext v s2; congr 1; funext c s3
  cases c <;> rfl
theorem wp_and {es : Es} : WP K t (ev T O b (.and es) s) = WP K t (evAnd T O es s) := by simp only [ev]
theorem wp_or {es : Es} : WP K t (ev T O b (.or es) s) = WP K t (evOr T O es s) := by simp only [ev]
theorem wp_and1 : WP K t (evAnd T O (.cons x .nil) s) = WP (fun u s => WP K .mk (optS (u.bl?.map D.bl) s)) .mk (ev T O true x s) := by
  simp only [wq, evAnd, wq_seq]
  congr 1; funext u s1
  cases u <;> rfl
theorem wp_and2 {y : E} {r : Es} : WP K t (evAnd T O (.cons x (.cons y r)) s) = WP (fun u s => WP K .mk (brS u (evAnd T O (.cons y r) s) (.ok (.bl false) s))) .mk (ev T O true x s) := by
  simp only [wq]
  rw [evAnd]
  · rw [wq_seq]
    congr 1; funext u s1
    cases u with
    | bl c => cases c <;> rfl
    | _ => rfl
  · intro h; cases h
theorem wp_or1 : WP K t (evOr T O (.cons x .nil) s) = WP (fun u s => WP K .mk (optS (u.bl?.map D.bl) s)) .mk (ev T O true x s) := by
  simp only [wq, evOr, wq_seq]
  congr 1; funext u s1
  cases u <;> rfl
theorem wp_or2 {y : E} {r : Es} : WP K t (evOr T O (.cons x (.cons y r)) s) = WP (fun u s => WP K .mk (brS u (.ok (.bl true) s) (evOr T O (.cons y r) s))) .mk (ev T O true x s) := by
  simp only [wq]
  rw [evOr]
  · rw [wq_seq]
    congr 1; funext u s1
    cases u with
    | bl c => cases c <;> rfl
    | _ => rfl
  · intro h; cases h
theorem wp_not : WP K t (ev T O b (.not x) s) = WP (fun u s => WP K .mk (optS (u.bl?.map fun c => D.bl (!c)) s)) .mk (ev T O true x s) := by
  simp only [wq, ev, wq_seq, wq_opt]
theorem wp_ifx : WP K t (ev T O b (.ifx x y z) s) = WP (fun u s => WP K .mk (brS u (ev T O false y s) (ev T O false z s))) .mk (ev T O true x s) := by
  simp only [wq, ev, wq_seq]
  congr 1; funext u s1
  cases u with
  | bl c => cases c <;> rfl
  | _ => rfl
theorem wp_idx : WP K t (ev T O b (.idx x y) s) = WP (fun u s => WP (fun v s => WP K .mk (optS (idxD (view s u) v) s)) .mk (ev T O true y s)) .mk (ev T O true x s) := by
  simp only [wq, ev, wq_seq, wq_opt]
theorem wp_slc {lo hi : Es} : WP K t (ev T O b (.slc x lo hi) s) = WP (fun u s => WP (fun v s => WP (fun w s => WP K .mk (optS (slcD (view s u) v w) s)) .mk (evP T O hi s)) .mk (evP T O lo s)) .mk (ev T O true x s) := by
  simp only [wq, ev, wq_seq, wq_opt]
theorem wp_rev : WP K t (ev T O b (.rev x) s) = WP (fun u s => WP K .mk (optS ((view s u).lst?.map fun ds => D.lst ds.reverse) s)) .mk (ev T O true x s) := by
  simp only [wq, ev, wq_seq, wq_opt]
theorem wp_fld {f : Nat} : WP K t (ev T O b (.fld x f) s) = WP (fun u s => WP K .mk (optS (fldD T f (view s u)) s)) .mk (ev T O true x s) := by
  simp only [wq, ev, wq_seq, wq_opt]
theorem wp_call {f : Nat} {es : Es} {ds : List D} : WP K t (ev T O b (.call f es ds) s) = WP (fun xs s => WP K .mk (ofRC (O f none (xs ++ ds) s.sto) s.env)) .mk (evs T O es s) := by
  simp only [wq, ev, wq_seq]
theorem wp_callk {f : Nat} {es ks : Es} {ix : List Nat} : WP K t (ev T O b (.callk f es ks ix) s) = WP (fun xs s => WP (fun zs s => WP K .mk (ofRC (O f none (pk ix (xs ++ zs)) s.sto) s.env)) .mk (evs T O ks s)) .mk (evs T O es s) := by
  simp only [wq, ev, wq_seq]
theorem wp_new {c f : Nat} {es : Es} : WP K t (ev T O b (.new c f es) s) = WP (fun xs s => WP K .mk (ofRC (O f (some c) xs s.sto) s.env)) .mk (evs T O es s) := by
  simp only [wq, ev, wq_seq]
theorem wp_bi {f : Bi} {es : Es} : WP K t (ev T O b (.bi f es) s) = WP (fun xs s => WP K .mk (optS (biD f (xs.map (view s))) s)) .mk (evBs T O es s) := by
  simp only [wq, ev, wq_seq, wq_opt]
theorem wp_lrg {tp : Bool} {es : Es} : WP K t (ev T O b (.lrg tp es) s) = WP (fun xs s => WP K .mk (optS ((rngList xs).map (if tp then .tup else .lst)) s)) .mk (evBs T O es s) := by
  simp only [wq, ev, wq_seq, wq_opt]
theorem wp_isi {ts : List Ty} : WP K t (ev T O b (.isi x ts) s) = WP (fun u s => WP K .mk (optS ((isTys (view s u) ts).map D.bl) s)) .mk (ev T O true x s) := by
  simp only [wq, ev, wq_seq, wq_opt]
theorem wp_mt {m : Mt} {es : Es} : WP K t (ev T O b (.mt m x es) s) = WP (fun u s => WP (fun _ s => WP (fun xs s => WP K .mk (mtD m u xs s)) .mk (evs T O es s)) .mk (optS ((view s u).lst?) s)) .mk (ev T O true x s) := by
  simp only [wq, ev, wq_seq, wq_opt]
theorem wp_comp {vs : List Nat} {tg : Tg} {it : It} {cs : Es} : WP K t (ev T O b (.comp vs tg it cs x) s) = WP (fun k s => WP (fun ds s => K (.lst ds) s) .mk (blk vs (compLoop k.ok (compF T O vs tg cs x) k.items) s)) .mk (evIt T O it s) := by
  simp only [wq, ev, wq_seq, wq_ret]
  rfl
theorem wp_gal : WP K t (ev T O b (.gal x) s) = WP (fun ds s => K (.ref s.sto.length) ⟨s.env, s.sto ++ [.lst ds]⟩) .mk (evOwn T O x s) := by
  simp only [wq, ev, wq_seq, galloc, wq_ok]
end
section
variable {T : Tab} {O : Orc} {x y z : E} {s : St}
theorem wp_evP0 {K : Option Int → St → Prop} {t : Tag K} : WP K t (evP T O .nil s) = K none s := by
  simp only [evP, wp_ret]
theorem wp_evP1 {K : Option Int → St → Prop} {t : Tag K} : WP K t (evP T O (.cons x .nil) s) = WP (fun u s => WP (fun i s => K (some i) s) .mk (optS u.int? s)) .mk (ev T O true x s) := by
  simp only [wq, evP, wq_seq]
  congr 1; funext u s1
  cases u <;> first | exact wq_bad.trans wq_bad.symm | exact wq_ret.trans (wq_ok (K := fun i s => K (some i) s)).symm
theorem wp_nil {K : List D → St → Prop} {t : Tag K} : WP K t (evs T O .nil s) = K [] s := by simp only [evs, wp_ret]
theorem wp_cons {K : List D → St → Prop} {t : Tag K} {r : Es} : WP K t (evs T O (.cons x r) s) = WP (fun d s => WP (fun ds s => K (d :: ds) s) .mk (evs T O r s)) .mk (ev T O false x s) := by
  simp only [wq, evs, wq_seq, wq_ret]
theorem wp_nilB {K : List D → St → Prop} {t : Tag K} : WP K t (evBs T O .nil s) = K [] s := by simp only [evBs, wp_ret]
theorem wp_consB {K : List D → St → Prop} {t : Tag K} {r : Es} : WP K t (evBs T O (.cons x r) s) = WP (fun d s => WP (fun ds s => K (d :: ds) s) .mk (evBs T O r s)) .mk (ev T O true x s) := by
  simp only [wq, evBs, wq_seq, wq_ret]
theorem wp_ts0 {K : Bool → St → Prop} {t : Tag K} : WP K t (evTs T O .nil s) = K true s := by simp only [evTs, wp_ret]
theorem wp_ts1 {K : Bool → St → Prop} {t : Tag K} : WP K t (evTs T O (.cons x .nil) s) = WP (fun u s => WP K .mk (optS u.bl? s)) .mk (ev T O true x s) := by
  simp only [wq, evTs, wq_seq]
  congr 1; funext u s1
  cases u <;> first | exact wq_bad.trans wq_bad.symm | exact wq_ret.trans (wq_ok (K := K)).symm
/-! ### own lists, iteration -/
theorem wo_lst {K : List D → St → Prop} {t : Tag K} {es : Es} : WP K t (evOwn T O (.lst es) s) = WP K t (evs T O es s) := by simp only [evOwn]
theorem wo_comp {K : List D → St → Prop} {t : Tag K} {vs : List Nat} {tg : Tg} {it : It} {cs : Es} : WP K t (evOwn T O (.comp vs tg it cs x) s) = WP (fun k s => WP K .mk (blk vs (compLoop k.ok (compF T O vs tg cs x) k.items) s)) .mk (evIt T O it s) := by
  simp only [wq, evOwn, wq_seq]
  rfl
theorem wo_lrg {K : List D → St → Prop} {t : Tag K} {es : Es} : WP K t (evOwn T O (.lrg false es) s) = WP (fun xs s => WP K .mk (optS (rngList xs) s)) .mk (evBs T O es s) := by
  simp only [wq, evOwn, wq_seq, wq_opt]
theorem wo_list {K : List D → St → Prop} {t : Tag K} : WP K t (evOwn T O (.bi .list (.cons x .nil)) s) = WP (fun u s => WP K .mk (optS (view s u).seq? s)) .mk (ev T O true x s) := by
  simp only [wq, evOwn, wq_seq, wq_opt]
theorem wo_sorted {K : List D → St → Prop} {t : Tag K} : WP K t (evOwn T O (.bi .sorted (.cons x .nil)) s) = WP (fun u s => WP K .mk (optS ((view s u).seq?.bind fun ds => (ints? ds).map fun ns => (sortI ns).map D.int) s)) .mk (ev T O true x s) := by
  simp only [wq, evOwn, wq_seq, wq_opt]
theorem wo_rev {K : List D → St → Prop} {t : Tag K} : WP K t (evOwn T O (.rev x) s) = WP (fun u s => WP K .mk (optS ((view s u).lst?.map fun ds => ds.reverse) s)) .mk (ev T O true x s) := by
  simp only [wq, evOwn, wq_seq, wq_opt]
theorem wo_add {K : List D → St → Prop} {t : Tag K} : WP K t (evOwn T O (.bin .add x y) s) = WP (fun u s => WP (fun v s => WP K .mk (optS ((bin .add (view s u) (view s v)).bind D.lst?) s)) .mk (ev T O true y s)) .mk (ev T O true x s) := by
  simp only [wq, evOwn, wq_seq, wq_opt]
theorem wo_mul {K : List D → St → Prop} {t : Tag K} : WP K t (evOwn T O (.bin .mul x y) s) = WP (fun u s => WP (fun v s => WP K .mk (optS ((bin .mul (view s u) (view s v)).bind D.lst?) s)) .mk (ev T O true y s)) .mk (ev T O true x s) := by
  simp only [wq, evOwn, wq_seq, wq_opt]
theorem wi_seq {K : Tok → St → Prop} {t : Tag K} : WP K t (evIt T O (.seq x) s) = WP (fun u s => WP K .mk (optS (seqTok s u) s)) .mk (ev T O false x s) := by
  simp only [wq, evIt, wq_seq, wq_opt]
theorem wi_rng {K : Tok → St → Prop} {t : Tag K} {es : Es} : WP K t (evIt T O (.rng es) s) = WP (fun xs s => WP K .mk (optS (rngTok xs) s)) .mk (evBs T O es s) := by
  simp only [wq, evIt, wq_seq, wq_opt]
theorem wi_enum {K : Tok → St → Prop} {t : Tag K} : WP K t (evIt T O (.enum x) s) = WP (fun u s => WP K .mk (optS ((seqTok s u).map fun k => ⟨numbered 0 k.items, k.src⟩) s)) .mk (ev T O false x s) := by
  simp only [wq, evIt, wq_seq, wq_opt]
/-! ### targets -/
theorem wt_nm {K : Unit → St → Prop} {t : Tag K} {i : Nat} {d : D} : WP K t (asg T O (.nm i) d s) = (hasS s.env i = true ∧ K () ⟨s.env.set i (.val d), s.sto⟩) := by
  simp only [asg, hasS, wp_if, decide_eq_true_eq, wp_ok, wp_bad]
  apply propext
  constructor
  · rintro ⟨h1, h2⟩
    by_cases h : i < s.env.length
    · exact ⟨h, h1 h⟩
    · exact (h2 h).elim
  · rintro ⟨h1, h2⟩
    exact ⟨fun _ => h2, fun h => (h h1).elim⟩
theorem wt_tup {K : Unit → St → Prop} {t : Tag K} {ts : Tgs} {ds : List D} : WP K t (asg T O (.tup ts) (.tup ds) s) = (ds.length = ts.len ∧ WP K t (asgs T O ts ds s)) := by
  simp only [asg]
  by_cases h : ds.length = ts.len
  · simp [h]
  · simp [h, Dn.bad, wp_bad]
theorem wt_nil {K : Unit → St → Prop} {t : Tag K} : WP K t (asgs T O .nil [] s) = K () s := by simp only [asgs, wp_ret]
theorem wt_cons {K : Unit → St → Prop} {t : Tag K} {tg : Tg} {r : Tgs} {d : D} {ds : List D} : WP K t (asgs T O (.cons tg r) (d :: ds) s) = WP (fun _ s => WP K .mk (asgs T O r ds s)) .mk (asg T O tg d s) := by
  simp only [wq, asgs, wq_seq]
theorem wt_sub {K : Unit → St → Prop} {t : Tag K} {d : D} : WP K t (asg T O (.sub x y) d s) = WP (fun u s => WP (fun v s => WP K .mk (setSub u v d s)) .mk (ev T O true y s)) .mk (ev T O true x s) := by
  simp only [wq, asg, wq_seq]
theorem wt_fld {K : Unit → St → Prop} {t : Tag K} {d : D} {f : Nat} : WP K t (asg T O (.fld x f) d s) = WP (fun u s => WP K .mk (setFld T u f d s)) .mk (ev T O true x s) := by
  simp only [wq, asg, wq_seq]
end
/-! ### statements -/
section
variable {T : Tab} {O : Orc} {x y z : E} {s : St} {K : Fl → St → Prop} {t : Tag K}
theorem ws_nil : WP K t (exs T O .nil s) = K .nx s := by simp only [exs, wp_ret]
theorem ws_asg {tg : Tg} {r : Ss} : WP K t (exs T O (.cons (.asg tg x) r) s) = WP (fun d s => WP (fun _ s => WP K .mk (exs T O r s)) .mk (asg T O tg d s)) .mk (ev T O false x s) := by
  simp only [wq, exs, ex, wq_seq, wq_ret]
theorem ws_aown {i : Nat} {r : Ss} : WP K t (exs T O (.cons (.aown i x) r) s) = WP (fun ds s => hasS s.env i = true ∧ WP K .mk (exs T O r ⟨s.env.set i (.own ds), s.sto⟩)) .mk (evOwn T O x s) := by
  simp only [wq, exs, ex, wq_seq, wq_if, hasS, decide_eq_true_eq, wq_ok, wq_bad]
  congr 1; funext u s1
  apply propext
  constructor
  · rintro ⟨h1, h2⟩
    by_cases h : i < s1.env.length
    · exact ⟨h, h1 h⟩
    · exact (h2 h).elim
  · rintro ⟨h1, h2⟩
    exact ⟨fun _ => h2, fun h => (h h1).elim⟩
theorem ws_par {i j : Nat} {r : Ss} : WP K t (exs T O (.cons (.par i j x y) r) s) = WP (fun u s => WP (fun v s => hasS s.env i = true ∧ hasS s.env j = true ∧ WP K .mk (exs T O r ⟨(s.env.set i (.val u)).set j (.val v), s.sto⟩)) .mk (ev T O false y s)) .mk (ev T O false x s) := by
  simp only [wq, exs, ex, wq_seq, wq_if, hasS, decide_eq_true_eq, wq_ok, wq_bad]
  congr 1; funext u s1; congr 1; funext v s2
  apply propext
  constructor
  · rintro ⟨h1, h2⟩
    by_cases h : i < s2.env.length ∧ j < s2.env.length
    · exact ⟨h.1, h.2, h1 h⟩
    · exact (h2 h).elim
  · rintro ⟨h1, h2, h3⟩
    exact ⟨fun _ => h3, fun h => (h ⟨h1, h2⟩).elim⟩
theorem ws_expr {r : Ss} : WP K t (exs T O (.cons (.expr x) r) s) = WP (fun _ s => WP K .mk (exs T O r s)) .mk (ev T O true x s) := by
  simp only [wq, exs, ex, wq_seq, wq_ret]
theorem ws_ret {r : Ss} : WP K t (exs T O (.cons (.ret x) r) s) = WP (fun d s => K (.rt d) s) .mk (ev T O false x s) := by
  simp only [wq, exs, ex, wq_seq, wq_ret]
theorem ws_retn {r : Ss} : WP K t (exs T O (.cons .retn r) s) = K (.rt .non) s := by
  simp only [wq, exs, ex, wq_seq, wq_ret]
theorem ws_pas {r : Ss} : WP K t (exs T O (.cons .pas r) s) = WP K t (exs T O r s) := by
  simp only [wq, exs, ex, wq_seq, wq_ret]
theorem ws_doc {r : Ss} : WP K t (exs T O (.cons .doc r) s) = WP K t (exs T O r s) := by
  simp only [wq, exs, ex, wq_seq, wq_ret]
theorem ws_brk {r : Ss} : WP K t (exs T O (.cons .brk r) s) = K .bk s := by
  simp only [wq, exs, ex, wq_seq, wq_ret]
theorem ws_cnt {r : Ss} : WP K t (exs T O (.cons .cnt r) s) = K .ct s := by
  simp only [wq, exs, ex, wq_seq, wq_ret]
/-- on with the rest, if there is nothing to be left -/
def goS (o : Fl) (m : Rs Fl) (s : St) : Rs Fl := match o with
  | .nx => m
  | o => .ok o s
theorem ws_iteN {p q : Ss} : WP K t (exs T O (.cons (.ite x p q) .nil) s) = WP (fun u s => WP K .mk (brS u (exs T O p s) (exs T O q s))) .mk (ev T O true x s) := by
  simp only [wq, exs, ex, wq_seq]
  congr 1; funext u s1
  have key : ∀ m : Rs Fl, WQ (fun a s => WQ K ((match a with | .nx => Dn.ret .nx | o => Dn.ret o : M Fl) s)) m = WQ K m := fun m => by
    congr 1
    funext a s2
    cases a <;> exact wq_ok
  have bd : WQ K (.bad) = WQ (fun (a : Fl) s => WQ K ((match a with | .nx => Dn.ret .nx | o => Dn.ret o : M Fl) s)) .bad := wq_bad.trans wq_bad.symm
  cases u with
  | bl c => cases c <;> exact key _
  | _ => exact bd.symm
theorem ws_ite {p q r : Ss} : WP K t (exs T O (.cons (.ite x p q) r) s) = WP (fun u s => WP (fun o s => WP K .mk (goS o (exs T O r s) s)) .mk (brS u (exs T O p s) (exs T O q s))) .mk (ev T O true x s) := by
  simp only [exs, ex, wq, wq_seq]
  congr 1; funext u s1
  have key : ∀ m : Rs Fl, WQ (fun a s => WQ K ((match a with | .nx => exs T O r | o => Dn.ret o : M Fl) s)) m = WQ (fun o s => WQ K (goS o (exs T O r s) s)) m := fun m => by
    congr 1
    funext a s2
    cases a <;> rfl
  cases u with
  | bl c => cases c <;> exact key _
  | _ => exact key .bad
theorem ws_for {tg : Tg} {it : It} {p r : Ss} : WP K t (exs T O (.cons (.fors tg it p) r) s) = WP (fun k s => WP (fun o s => WP K .mk (goS o (exs T O r s) s)) .mk (forLoop k.ok (forF T O tg p) k.items s)) .mk (evIt T O it s) := by
  simp only [exs, ex, wq, wq_seq]
  congr 1; funext k s1
  show WQ _ (forLoop k.ok (forF T O tg p) k.items s1) = _
  congr 1
  funext a s2
  cases a <;> rfl
theorem ws_whl {n : Nat} {p r : Ss} : WP K t (exs T O (.cons (.whl n x p) r) s) = WP (fun o s => WP K .mk (goS o (exs T O r s) s)) .mk (whlLoop (ev T O true x) (exs T O p) n s) := by
  simp only [exs, ex, wq, wq_seq]
  congr 1
  funext a s2
  cases a <;> rfl
theorem go_nx {m : Rs Fl} {s : St} : goS .nx m s = m := id rfl
theorem go_rt {m : Rs Fl} {d : D} {s : St} : goS (.rt d) m s = .ok (.rt d) s := id rfl
theorem go_bk {m : Rs Fl} {s : St} : goS .bk m s = .ok .bk s := id rfl
theorem go_ct {m : Rs Fl} {s : St} : goS .ct m s = .ok .ct s := id rfl
end
section
variable {α : Type} {K : α → St → Prop} {t : Tag K} {p q : Rs α}
theorem br_true : WP K t (brS (.bl true) p q) = WP K t p := id rfl
theorem br_false : WP K t (brS (.bl false) p q) = WP K t q := id rfl
theorem br_dec {c : Prop} [Decidable c] : WP K t (brS (.bl (decide c)) p q) = ((c → WP K t p) ∧ (¬c → WP K t q)) := by
  by_cases h : c
  · simp [h, br_true]
  · simp [h, br_false]
theorem br_not {c : Prop} [Decidable c] : WP K t (brS (.bl (!decide c)) p q) = ((¬c → WP K t p) ∧ (c → WP K t q)) := by
  by_cases h : c
  · simp [h, br_false]
  · simp [h, br_true]
theorem cbr_true : WP K t (cbr true p q) = WP K t p := id rfl
theorem cbr_false : WP K t (cbr false p q) = WP K t q := id rfl
theorem cbr_dec {c : Prop} [Decidable c] : WP K t (cbr (decide c) p q) = ((c → WP K t p) ∧ (¬c → WP K t q)) := by
  by_cases h : c
  · simp [h, cbr_true]
  · simp [h, cbr_false]
theorem cbr_not {c : Prop} [Decidable c] : WP K t (cbr (!decide c) p q) = ((¬c → WP K t p) ∧ (c → WP K t q)) := by
  by_cases h : c
  · simp [h, cbr_false]
  · simp [h, cbr_true]
theorem wp_ofRC {K : D → St → Prop} {t : Tag K} {m : RC} {env : List Slot} : WP K t (ofRC m env) = CP (fun d S => K d ⟨env, S⟩) .mk m := by
  cases m with
  | ok d S =>
    show WP K t (.ok d ⟨env, S⟩) = _
    rw [wp_ok]
    apply propext
    constructor
    · intro h; exact ⟨_, _, rfl, h⟩
    · rintro ⟨_, _, h, h'⟩; cases h; exact h'
  | exc c a S =>
    apply propext
    constructor
    · rintro ⟨_, _, h, _⟩; cases h
    · rintro ⟨_, _, h, _⟩; cases h
  | bad =>
    apply propext
    constructor
    · rintro ⟨_, _, h, _⟩; cases h
    · rintro ⟨_, _, h, _⟩; cases h
theorem wp_blk {vs : List Nat} {m : M α} {s : St} : WP K t (blk vs m s) = (wipable s.env vs = true ∧ WP (fun a s' => K a ⟨restore s.env s'.env vs, s'.sto⟩) .mk (m ⟨wipeE s.env vs, s.sto⟩)) := by
  unfold blk
  by_cases h : wipable s.env vs = true
  · simp only [h, if_true, true_and]
    cases m ⟨wipeE s.env vs, s.sto⟩ with
    | ok a s' => rw [wp_ok, wp_ok]
    | exc c a s' =>
      apply propext
      constructor
      · rintro ⟨_, _, h, _⟩; cases h
      · rintro ⟨_, _, h, _⟩; cases h
    | bad => rw [wp_bad]; exact wp_bad.symm
  · simp [h]; exact fun h => by rw [wp_bad] at h; exact h
end
section
theorem cp_ok {P : D → List Ob → Prop} {t : TagC P} {d : D} {S : List Ob} : CP P t (.ok d S) = P d S := by
  apply propext
  constructor
  · rintro ⟨_, _, h, h'⟩; cases h; exact h'
  · intro h; exact ⟨_, _, rfl, h⟩
theorem cp_mono {P Q : D → List Ob → Prop} {t : TagC P} {t' : TagC Q} {m : RC} (h : CP P t m) (h' : ∀ d S, P d S → Q d S) : CP Q t' m := by
  obtain ⟨d, S, e, p⟩ := h
  exact ⟨d, S, e, h' _ _ p⟩
/-- what a def's end gives -/
def endK (P : D → List Ob → Prop) (o : Fl) (s : St) : Prop := match o with
  | .rt d => P d s.sto
  | .nx => P .non s.sto
  | _ => False
theorem endK_rt {P : D → List Ob → Prop} {d : D} {s : St} : endK P (.rt d) s = P d s.sto := id rfl
theorem endK_nx {P : D → List Ob → Prop} {s : St} : endK P .nx s = P .non s.sto := id rfl
theorem orc_n {T : Tab} {k f : Nat} {ds : List D} {S : List Ob} : orc T k f none ds S = callF T k f none ds S := by
  cases k <;> rfl
theorem orc_s {T : Tab} {k f c : Nat} {ds : List D} {S : List Ob} : orc T k f (some c) ds S = callF T (k - 1) f (some c) ds S := by
  cases k <;> rfl
theorem cp_run {P : D → List Ob → Prop} {t : TagC P} {T : Tab} {k f : Nat} {fn : Fn} {ds : List D} {S : List Ob} (hf : T.fns[f]? = some fn) (hl : ds.length = fn.np) (hk : 1 ≤ k)
    (h : WP (endK P) .mk (exs T (orc T (k - 1)) fn.body ⟨ds.map .val ++ List.replicate (fn.nn - fn.np) .emp, S⟩)) : CP P t (callF T k f none ds S) := by
  obtain ⟨k, rfl⟩ : ∃ j, k = j + 1 := ⟨k - 1, by omega⟩
  rw [callF_eq hf hl]
  obtain ⟨o, s, e, q⟩ := h
  rw [Nat.add_sub_cancel] at e
  rw [e]
  cases o with
  | rt d => exact ⟨_, _, rfl, q⟩
  | nx => exact ⟨_, _, rfl, q⟩
  | bk => exact q.elim
  | ct => exact q.elim
/-- what an init's end gives -/
def endI (c : Nat) (P : D → List Ob → Prop) (o : Fl) (s : St) : Prop := match o with
  | .nx => ∃ fs, look s.env 0 = .owni c fs ∧ P (.ins c fs) s.sto
  | _ => False
theorem endI_nx {P : D → List Ob → Prop} {c : Nat} {fs : List D} {env : List Slot} {S : List Ob} : endI c P .nx ⟨.owni c fs :: env, S⟩ = P (.ins c fs) S := by
  apply propext
  constructor
  · rintro ⟨fs', h, p⟩; cases h; exact p
  · intro h; exact ⟨_, rfl, h⟩
theorem cp_init {P : D → List Ob → Prop} {t : TagC P} {T : Tab} {k f c : Nat} {fn : Fn} {ds : List D} {S : List Ob} (hf : T.fns[f]? = some fn) (hl : ds.length + 1 = fn.np) (hk : 1 ≤ k)
    (h : WP (endI c P) .mk (exs T (orc T (k - 1)) fn.body ⟨.owni c [] :: ds.map .val ++ List.replicate (fn.nn - fn.np) .emp, S⟩)) : CP P t (callF T k f (some c) ds S) := by
  obtain ⟨k, rfl⟩ : ∃ j, k = j + 1 := ⟨k - 1, by omega⟩
  rw [callF_succ, hf]
  unfold runFn
  simp only [hl, if_true]
  obtain ⟨o, s, e, q⟩ := h
  rw [Nat.add_sub_cancel] at e
  rw [e]
  cases o with
  | nx =>
    obtain ⟨fs, l, p⟩ := q
    have l' : s.env[0]? = some (.owni c fs) := by
      unfold look at l
      cases h : s.env[0]? with
      | none => rw [h] at l; cases l
      | some x => rw [h] at l; cases l; rfl
    simp only [l', if_true]
    exact ⟨_, _, rfl, p⟩
  | _ => exact q.elim
end
/-! ### values -/
theorem bin_addI {a b : Int} : bin .add (.int a) (.int b) = some (.int (a + b)) := id rfl
theorem bin_subI {a b : Int} : bin .sub (.int a) (.int b) = some (.int (a - b)) := id rfl
theorem bin_mulI {a b : Int} : bin .mul (.int a) (.int b) = if mulOk a b = true then some (.int (a * b)) else none := id rfl
theorem bin_fdivI {a b : Int} : bin .fdiv (.int a) (.int b) = if b ≠ 0 ∧ b.natAbs < 1073741824 then some (.int (a.fdiv b)) else none := id rfl
theorem bin_modI {a b : Int} : bin .mod (.int a) (.int b) = if b ≠ 0 then some (.int (a.fmod b)) else none := id rfl
theorem bin_addT {a b : List D} : bin .add (.tup a) (.tup b) = if a.length + b.length ≤ lim then some (.tup (a ++ b)) else none := id rfl
theorem bin_addL {a b : List D} : bin .add (.lst a) (.lst b) = if a.length + b.length ≤ lim then some (.lst (a ++ b)) else none := id rfl
theorem na_lit {n : Nat} : Int.natAbs (no_index (@OfNat.ofNat Int n instOfNat)) = @OfNat.ofNat Nat n (instOfNatNat n) := id rfl
theorem na_neg {n : Nat} : Int.natAbs (-(no_index (@OfNat.ofNat Int n instOfNat))) = @OfNat.ofNat Nat n (instOfNatNat n) := by rw [Int.natAbs_neg, na_lit]
theorem mulOk_r {a b : Int} (h : b.natAbs < 18446744073709551616) : mulOk a b = true := by
  unfold mulOk; rw [decide_eq_true h, Bool.or_true]
theorem mulOk_l {a b : Int} (h : a.natAbs < 18446744073709551616) : mulOk a b = true := by
  unfold mulOk; rw [decide_eq_true h, Bool.true_or]
theorem cmp_eqI {a b : Int} : cmpD .eq (.int a) (.int b) = some (decide (a = b)) := id rfl
theorem cmp_neI {a b : Int} : cmpD .ne (.int a) (.int b) = some (!decide (a = b)) := id rfl
theorem cmp_ltI {a b : Int} : cmpD .lt (.int a) (.int b) = some (decide (a < b)) := id rfl
theorem cmp_leI {a b : Int} : cmpD .le (.int a) (.int b) = some (decide (a ≤ b)) := id rfl
theorem cmp_gtI {a b : Int} : cmpD .gt (.int a) (.int b) = some (decide (b < a)) := id rfl
theorem cmp_geI {a b : Int} : cmpD .ge (.int a) (.int b) = some (decide (b ≤ a)) := id rfl
theorem idx_lst {ds : List D} {k : Int} : idxD (.lst ds) (.int k) = atI ds k := id rfl
theorem idx_tup {ds : List D} {k : Int} : idxD (.tup ds) (.int k) = atI ds k := id rfl
section
variable {α : Type} {a b c d e f : α} {l : List α}
theorem at_0 : atI (a :: l) 0 = some a := id rfl
theorem at_1 : atI (a :: b :: l) 1 = some b := id rfl
theorem at_2 : atI (a :: b :: c :: l) 2 = some c := id rfl
theorem at_3 : atI (a :: b :: c :: d :: l) 3 = some d := id rfl
theorem at_4 : atI (a :: b :: c :: d :: e :: l) 4 = some e := id rfl
theorem at_5 : atI (a :: b :: c :: d :: e :: f :: l) 5 = some f := id rfl
theorem at_m1 : atI l (-1) = l.getLast? := by
  unfold atI
  rw [if_neg (by decide)]
  cases l with
  | nil => rfl
  | cons x r =>
    rw [if_pos (by simp only [List.length_cons]; omega), List.getLast?_eq_getElem?]
    congr 1
    simp only [List.length_cons]
    omega
end
theorem at_nat {α : Type} {l : List α} {n : Nat} : atI l (n : Int) = l[n]? := by
  unfold atI; rw [if_pos (by omega)]; rfl
theorem len_lst {ds : List D} : biD .len [.lst ds] = some (.int ds.length) := id rfl
theorem len_tup {ds : List D} : biD .len [.tup ds] = some (.int ds.length) := id rfl
theorem bi_int {a : Int} : biD .int [.int a] = some (.int a) := id rfl
theorem bi_abs {a : Int} : biD .abs [.int a] = some (.int (if a < 0 then -a else a)) := id rfl
theorem bi_intb {a : Bool} : biD .int [.bl a] = some (.int (if a then 1 else 0)) := id rfl
theorem bi_max2 {a b : Int} : biD .max [.int a, .int b] = some (.int (max a b)) := by
  show some (D.int (if b > a then b else a)) = _
  rw [Int.max_def]; congr 2; split <;> split <;> omega
theorem bi_min2 {a b : Int} : biD .min [.int a, .int b] = some (.int (min a b)) := by
  show some (D.int (if b < a then b else a)) = _
  rw [Int.min_def]; congr 2; split <;> split <;> omega
theorem bi_min3 {a b c : Int} : biD .min [.int a, .int b, .int c] = some (.int (min (min a b) c)) := by
  show some (D.int (if c < (if b < a then b else a) then c else (if b < a then b else a))) = _
  congr 2
  have h : (if b < a then b else a) = min a b := by rw [Int.min_def]; split <;> split <;> omega
  rw [h, Int.min_def (min a b)]; split <;> split <;> omega
theorem bi_tupL {ds : List D} : biD .tuple [.lst ds] = some (.tup ds) := id rfl
theorem bi_tupT {ds : List D} : biD .tuple [.tup ds] = some (.tup ds) := id rfl
theorem bi_lstL {ds : List D} : biD .list [.lst ds] = some (.lst ds) := id rfl
theorem bi_lstT {ds : List D} : biD .list [.tup ds] = some (.lst ds) := id rfl
theorem seq_lst {ds : List D} : (D.lst ds).seq? = some ds := id rfl
theorem seq_tup {ds : List D} : (D.tup ds).seq? = some ds := id rfl
theorem lst_lst {ds : List D} : (D.lst ds).lst? = some ds := id rfl
theorem bl_bl {c : Bool} : (D.bl c).bl? = some c := id rfl
theorem int_int {c : Int} : (D.int c).int? = some c := id rfl
theorem isN_int {c : Int} : isD (.int c) .non = some false := id rfl
theorem isN_bl {c : Bool} : isD (.bl c) .non = some false := id rfl
theorem isN_non : isD .non .non = some true := id rfl
theorem isN_tup {ds : List D} : isD (.tup ds) .non = some false := id rfl
theorem isN_lst {ds : List D} : isD (.lst ds) .non = some false := id rfl
theorem isN_str {x : Str} : isD (.str x) .non = some false := id rfl
theorem isN_ins {c : Nat} {ds : List D} : isD (.ins c ds) .non = some false := id rfl
theorem isB_int {n : Int} {c : Bool} : isD (.int n) (.bl c) = some false := id rfl
theorem isB_tup {ds : List D} {c : Bool} : isD (.tup ds) (.bl c) = some false := id rfl
theorem isB_non {c : Bool} : isD .non (.bl c) = some false := id rfl
theorem isB_str {c : Bool} {x : Str} : isD (.str x) (.bl c) = some false := id rfl
theorem isB_tt : isD (.bl true) (.bl true) = some true := id rfl
theorem isB_tf : isD (.bl true) (.bl false) = some false := id rfl
theorem isB_ft : isD (.bl false) (.bl true) = some false := id rfl
theorem isB_ff : isD (.bl false) (.bl false) = some true := id rfl
def nums (ns : List Int) : List D := ns.map .int
theorem nums_len {ns : List Int} : (nums ns).length = ns.length := List.length_map _
theorem nums_ints : ∀ {ns : List Int}, ints? (nums ns) = some ns
  | [] => rfl
  | n :: r => by
    show (ints? (nums r)).map (n :: ·) = _
    rw [nums_ints]; rfl
theorem nums_cons {n : Int} {r : List Int} : nums (n :: r) = .int n :: nums r := id rfl
theorem nums_nil : nums [] = [] := id rfl
theorem nums_flat : ∀ {ns : List Int}, (nums ns).all D.flat = true
  | [] => rfl
  | n :: r => by
    show (D.flat (.int n) && (nums r).all D.flat) = true
    rw [nums_flat]; rfl
theorem nums_any {x : Int} : ∀ {ns : List Int}, ((nums ns).any fun d => d.eqv (.int x)) = decide (x ∈ ns)
  | [] => by simp [nums]
  | n :: r => by
    show ((D.int n).eqv (.int x) || (nums r).any fun d => d.eqv (.int x)) = _
    rw [nums_any]
    show (decide (n = x) || _) = _
    by_cases h : n = x
    · simp [h]
    · have h' : x ≠ n := fun e => h e.symm
      simp [h, h']
theorem in_lst {x : Int} {ns : List Int} : cmpD .isin (.int x) (.lst (nums ns)) = some (decide (x ∈ ns)) := by
  show (if (D.int x).flat && (nums ns).all D.flat then some ((nums ns).any fun d => d.eqv (.int x)) else none) = _
  rw [nums_flat, nums_any]; rfl
theorem in_tup {x : Int} {ns : List Int} : cmpD .isin (.int x) (.tup (nums ns)) = some (decide (x ∈ ns)) := by
  show (if (D.int x).flat && (nums ns).all D.flat then some ((nums ns).any fun d => d.eqv (.int x)) else none) = _
  rw [nums_flat, nums_any]; rfl
theorem nin_lst {x : Int} {ns : List Int} : cmpD .notin (.int x) (.lst (nums ns)) = some (!decide (x ∈ ns)) := by
  show (cmpD .isin (.int x) (.lst (nums ns))).map (!·) = _
  rw [in_lst]; rfl
theorem nin_tup {x : Int} {ns : List Int} : cmpD .notin (.int x) (.tup (nums ns)) = some (!decide (x ∈ ns)) := by
  show (cmpD .isin (.int x) (.tup (nums ns))).map (!·) = _
  rw [in_tup]; rfl
theorem srt_lst {ns : List Int} : biD .sorted [.lst (nums ns)] = some (.lst (nums (sortI ns))) := by
  show (ints? (nums ns)).map (fun ns => D.lst ((sortI ns).map .int)) = _
  rw [nums_ints]; rfl
theorem srt_tup {ns : List Int} : biD .sorted [.tup (nums ns)] = some (.lst (nums (sortI ns))) := by
  show (ints? (nums ns)).map (fun ns => D.lst ((sortI ns).map .int)) = _
  rw [nums_ints]; rfl
theorem eq_ints : ∀ {a b : List Int}, D.eqvs (nums a) (nums b) = decide (a = b)
  | [], [] => rfl
  | [], _ :: _ => rfl
  | _ :: _, [] => rfl
  | x :: r, y :: q => by
    show (decide (x = y) && D.eqvs (nums r) (nums q)) = _
    rw [eq_ints]
    by_cases h : x = y <;> by_cases h' : r = q <;> simp [h, h']
theorem plain_ints {n : Nat} : ∀ {a : List Int}, D.plains n (nums a) = true
  | [] => by cases n <;> rfl
  | x :: r => by
    show (D.plain n (.int x) && D.plains n (nums r)) = true
    rw [plain_ints]; cases n <;> rfl
theorem eq_tups {a b : List Int} : cmpD .eq (.tup (nums a)) (.tup (nums b)) = some (decide (a = b)) := by
  show (if scalD _ _ || (D.plains 59 (nums a) && D.plains 59 (nums b)) then some (D.eqvs (nums a) (nums b)) else none) = _
  rw [plain_ints, plain_ints, eq_ints]
  simp
/-! ### types -/
theorem isT_int {n : Int} {t : Ty} {r : List Ty} : isTys (.int n) (t :: r) = if (match t with | .int => true | _ => false : Bool) then some true else isTys (.int n) r := id rfl
theorem isT_tup {n : List D} {t : Ty} {r : List Ty} : isTys (.tup n) (t :: r) = if (match t with | .tuple => true | _ => false : Bool) then some true else isTys (.tup n) r := id rfl
theorem isT_lst {n : List D} {t : Ty} {r : List Ty} : isTys (.lst n) (t :: r) = if (match t with | .list => true | _ => false : Bool) then some true else isTys (.lst n) r := id rfl
theorem isT_str {n : Str} {t : Ty} {r : List Ty} : isTys (.str n) (t :: r) = if (match t with | .str => true | _ => false : Bool) then some true else isTys (.str n) r := id rfl
theorem isT_bl {n : Bool} {t : Ty} {r : List Ty} : isTys (.bl n) (t :: r) = if (match t with | .int | .bool => true | _ => false : Bool) then some true else isTys (.bl n) r := id rfl
theorem isT_non {t : Ty} {r : List Ty} : isTys .non (t :: r) = isTys .non r := id rfl
theorem isT_ins {c : Nat} {n : List D} {t : Ty} {r : List Ty} : isTys (.ins c n) (t :: r) = if (match t with | .own d => decide (c = d) | _ => false : Bool) then some true else isTys (.ins c n) r := id rfl
theorem isT_nil {x : D} : isTys x [] = some false := id rfl
/-! ### stores -/
def putS {α : Type} (x : Slot) (p : Rs α) : Rs α := match x with
  | .own _ => p
  | _ => .bad
def putR {α : Type} (x : Option Ob) (p : Rs α) : Rs α := match x with
  | some (.lst _) => p
  | _ => .bad
section
variable {α : Type} {K : α → St → Prop} {t : Tag K}
theorem putS_own {ds : List D} {p : Rs α} : WP K t (putS (.own ds) p) = WP K t p := id rfl
theorem putR_lst {ds : List D} {p : Rs α} : WP K t (putR (some (.lst ds)) p) = WP K t p := id rfl
end
theorem wp_putS {K : Unit → St → Prop} {t : Tag K} {i : Nat} {ds : List D} {s : St} : WP K t (putList (.slt i) ds s) = WP K t (putS (look s.env i) (.ok () ⟨s.env.set i (.own ds), s.sto⟩)) := by
  unfold putList look
  cases h : s.env[i]? with
  | none => simp only [h]; rfl
  | some x => cases x <;> simp only [h] <;> rfl
theorem wp_putR {K : Unit → St → Prop} {t : Tag K} {i : Nat} {ds : List D} {s : St} : WP K t (putList (.ref i) ds s) = WP K t (putR (s.sto[i]?) (.ok () ⟨s.env, s.sto.set i (.lst ds)⟩)) := by
  unfold putList
  cases h : s.sto[i]? with
  | none => simp only [h]; rfl
  | some x => cases x <;> simp only [h] <;> rfl
/-- x[i] = v, of a list -/
def setX (x y : D) (k : Int) (v : D) (s : St) : Rs Unit := match x with
  | .lst ds => (match atI ds k with
    | some _ => putList y (ds.set (if 0 ≤ k then k.toNat else (k + ds.length).toNat) v) s
    | none => .bad)
  | _ => .bad
theorem wp_setSub {K : Unit → St → Prop} {t : Tag K} {u v : D} {k : Int} {s : St} : WP K t (setSub u (.int k) v s) = WP K t (setX (view s u) u k v s) := by
  unfold setSub setX
  cases view s u <;> rfl
section
variable {K : Unit → St → Prop} {t : Tag K} {y a b c d v : D} {r ds : List D} {s : St}
theorem setX_0 : WP K t (setX (.lst (a :: r)) y 0 v s) = WP K t (putList y (v :: r) s) := id rfl
theorem setX_1 : WP K t (setX (.lst (a :: b :: r)) y 1 v s) = WP K t (putList y (a :: v :: r) s) := id rfl
theorem setX_2 : WP K t (setX (.lst (a :: b :: c :: r)) y 2 v s) = WP K t (putList y (a :: b :: v :: r) s) := id rfl
theorem setX_3 : WP K t (setX (.lst (a :: b :: c :: d :: r)) y 3 v s) = WP K t (putList y (a :: b :: c :: v :: r) s) := id rfl
end
def mtX (m : Mt) (x : D) (u : D) (xs : List D) (s : St) : Rs D := match m, x, xs with
  | .append, .lst ds, [d] => if ds.length < lim then (putList u (ds ++ [d]) s).bind (fun _ => ret .non) else .bad
  | .pop, .lst ds, [] => (match ds[ds.length - 1]? with
    | some d => (putList u ds.dropLast s).bind (fun _ => ret d)
    | none => .bad)
  | .pop, .lst ds, [.int i] => if big i then (match atI ds i with
    | some d => (putList u (ds.eraseIdx (if 0 ≤ i then i.toNat else (i + ds.length).toNat)) s).bind (fun _ => ret d)
    | none => .bad) else .bad
  | .lindex, .lst ds, [d] => if d.flat && ds.all D.flat then (match ds.findIdx? fun z => z.eqv d with
    | some j => .ok (.int j) s
    | none => .bad) else .bad
  | _, _, _ => .bad
section
variable {K : D → St → Prop} {t : Tag K} {u d : D} {ds xs : List D} {m : Mt} {s : St} {i : Int}
theorem wp_mtD : WP K t (mtD m u xs s) = WP K t (mtX m (view s u) u xs s) := by
  congr 1
theorem mtX_pop : WP K t (mtX .pop (.lst ds) u [.int i] s) = (big i = true ∧ WP (fun d s => WP (fun _ s => K d s) .mk (putList u (ds.eraseIdx (if 0 ≤ i then i.toNat else (i + ds.length).toNat)) s)) .mk (optS (atI ds i) s)) := by
  unfold mtX
  by_cases h : big i = true
  · simp only [h, if_true, true_and]
    cases atI ds i with
    | none => simp [wp_bad, wp_none]
    | some d =>
      rw [wp_some]
      simp only [wp_bind]
      simp only [wq, wq_ret]
  · simp [h, wp_bad]
theorem mtX_app : WP K t (mtX .append (.lst ds) u [d] s) = (ds.length < lim ∧ WP (fun _ s => K .non s) .mk (putList u (ds ++ [d]) s)) := by
  unfold mtX
  by_cases h : ds.length < lim
  · simp only [h, if_true, true_and, wp_bind]
    simp only [wq, wq_ret]
  · simp [h, wp_bad]
end
theorem lix_n {u : D} {s : St} : mtX .lindex (.lst [.non, .bl true, .bl false]) u [.non] s = .ok (.int 0) s := id rfl
theorem lix_t {u : D} {s : St} : mtX .lindex (.lst [.non, .bl true, .bl false]) u [.bl true] s = .ok (.int 1) s := id rfl
theorem lix_f {u : D} {s : St} : mtX .lindex (.lst [.non, .bl true, .bl false]) u [.bl false] s = .ok (.int 2) s := id rfl
end Dn

/-! PyWp2: loops. -/
namespace Dn
open PySem
section
variable {T : Tab} {O : Orc}
theorem wp_compF {K : Option D → St → Prop} {t : Tag K} {vs : List Nat} {tg : Tg} {cs : Es} {e : E} {d : D} {s : St} : WP K t (compF T O vs tg cs e d s) = WP (fun _ s => WP (fun c s => WP K .mk (cbr c ((ev T O false e s).bind fun y s => .ok (some y) s) (.ok none s))) .mk (evTs T O cs s)) .mk (asg T O tg d ⟨wipeE s.env vs, s.sto⟩) := by
  simp only [compF, wipeM, wq, wq_seq, wq_ok]
  congr 1; funext u s1; congr 1; funext c s2
  cases c <;> rfl
theorem wp_forF {K : Fl → St → Prop} {t : Tag K} {tg : Tg} {b : Ss} {d : D} {s : St} : WP K t (forF T O tg b d s) = WP (fun _ s => WP K .mk (exs T O b s)) .mk (asg T O tg d s) := by
  simp only [forF, wq, wq_seq]
end
theorem wipe_nil {env : List Slot} : wipeE env [] = env := id rfl
theorem wipe_cons {env : List Slot} {v : Nat} {vs : List Nat} : wipeE env (v :: vs) = (wipeE env vs).set v .emp := id rfl
theorem restore_nil {env now : List Slot} : restore env now [] = now := id rfl
theorem restore_cons {env now : List Slot} {v : Nat} {vs : List Nat} : restore env now (v :: vs) = (restore env now vs).set v (look env v) := id rfl
def wipS : Slot → Bool
  | .emp | .val _ => true
  | _ => false
theorem wip_nil {env : List Slot} : wipable env [] = true := id rfl
theorem wip_cons {env : List Slot} {v : Nat} {vs : List Nat} : wipable env (v :: vs) = ((hasS env v && wipS (look env v)) && wipable env vs) := by
  unfold wipable hasS look
  rw [List.all_cons]
  congr 1
  by_cases h : v < env.length
  · rw [decide_eq_true h, List.getElem?_eq_getElem h]
    cases env[v] <;> rfl
  · rw [decide_eq_false h, List.getElem?_eq_none (by omega)]
    rfl
theorem wipS_emp : wipS .emp = true := id rfl
theorem wipS_val {d : D} : wipS (.val d) = true := id rfl
theorem tok_none {ds : List D} {s : St} : Tok.ok ⟨ds, none⟩ s = true := id rfl
/-- whole numbers from lo on, so many -/
def span (lo : Int) (n : Nat) : List Int := (List.range n).map fun (j : Nat) => lo + j
theorem span_len {lo : Int} {n : Nat} : (span lo n).length = n := by simp [span]
theorem span_get {lo : Int} {n i : Nat} {d : D} (h : (nums (span lo n))[i]? = some d) : i < n ∧ d = .int (lo + i) := by
  unfold nums span at h
  rw [List.getElem?_map, List.getElem?_map] at h
  by_cases hi : i < n
  · rw [List.getElem?_range hi] at h
    exact ⟨hi, by cases h; rfl⟩
  · rw [List.getElem?_eq_none (by simp; omega)] at h
    cases h
theorem rngI_span {lo : Int} {n : Nat} : rngI lo 1 n = nums (span lo n) := by
  unfold rngI nums span
  rw [List.map_map]
  congr 1
  funext j
  simp
theorem rng1 {j : Int} : rngTok [.int j] = if big j = true ∧ j.toNat ≤ 16777216 then some ⟨nums (span 0 j.toNat), none⟩ else none := by
  rw [← rngI_span]; rfl
theorem rng2 {i j : Int} : rngTok [.int i, .int j] = if (big i && big j) = true ∧ (j - i).toNat ≤ 16777216 then some ⟨nums (span i (j - i).toNat), none⟩ else none := by
  rw [← rngI_span]; rfl
theorem rng3 {i j c : Int} : rngTok [.int i, .int j, .int c] = if c = -1 ∧ (big i && big j) = true ∧ (i - j).toNat ≤ 16777216 then some ⟨rngI i (-1) (i - j).toNat, none⟩ else none := id rfl
theorem rngL1 {j : Int} : rngList [.int j] = if big j = true ∧ j.toNat ≤ 16777216 then some (nums (span 0 j.toNat)) else none := by
  rw [← rngI_span]; rfl
theorem rngL2 {i j : Int} : rngList [.int i, .int j] = if (big i && big j) = true ∧ (j - i).toNat ≤ 16777216 then some (nums (span i (j - i).toNat)) else none := by
  rw [← rngI_span]; rfl
theorem big_of {i : Int} (h : -1000000000 < i) (h' : i < 1000000000) : big i = true := by
  unfold big; rw [decide_eq_true_eq]; omega
theorem tok_lst {s : St} {ds : List D} : seqTok s (.lst ds) = some ⟨ds, none⟩ := id rfl
theorem tok_tup {s : St} {ds : List D} : seqTok s (.tup ds) = some ⟨ds, none⟩ := id rfl
/-- what a turn's end leads to -/
def forK (K : Fl → St → Prop) (I : St → Prop) (o : Fl) (s : St) : Prop := match o with
  | .nx | .ct => I s
  | .bk => K .nx s
  | .rt v => K (.rt v) s
theorem forK_nx {K : Fl → St → Prop} {I : St → Prop} {s : St} : forK K I .nx s = I s := id rfl
theorem forK_ct {K : Fl → St → Prop} {I : St → Prop} {s : St} : forK K I .ct s = I s := id rfl
theorem forK_bk {K : Fl → St → Prop} {I : St → Prop} {s : St} : forK K I .bk s = K .nx s := id rfl
theorem forK_rt {K : Fl → St → Prop} {I : St → Prop} {s : St} {v : D} : forK K I (.rt v) s = K (.rt v) s := id rfl
theorem wp_forN {K : Fl → St → Prop} {t : Tag K} {chk : St → Bool} {f : D → M Fl} : ∀ {ds : List D} {s : St} (I : Nat → St → Prop) (h0 : I 0 s) (hs : ∀ i d s, ds[i]? = some d → I i s → chk s = true ∧ WP (forK K (I (i + 1))) .mk (f d s)) (hd : ∀ s, I ds.length s → chk s = true ∧ K .nx s), WP K t (forLoop chk f ds s)
  | [], s, I, h0, hs, hd => by
    unfold forLoop
    rw [if_pos (hd s h0).1, wp_ok]
    exact (hd s h0).2
  | d :: ds, s, I, h0, hs, hd => by
    obtain ⟨c, o, s', e, h⟩ := hs 0 d s rfl h0
    have ih := fun h0 => wp_forN (K := K) (t := t) (chk := chk) (f := f) (ds := ds) (s := s') (fun i => I (i + 1)) h0 (fun i d s he hi => hs (i + 1) d s he hi) (fun s h => hd s h)
    unfold forLoop
    rw [if_pos c, wp_seq]
    refine ⟨o, s', e, ?_⟩
    cases o with
    | nx => exact ih h
    | ct => exact ih h
    | bk => exact ⟨_, _, rfl, h⟩
    | rt v => exact ⟨_, _, rfl, h⟩
theorem wp_compN {K : List D → St → Prop} {t : Tag K} {chk : St → Bool} {f : D → M (Option D)} : ∀ {ds : List D} {s : St} (I : Nat → List D → St → Prop) (acc : List D) (h0 : I 0 acc s) (hs : ∀ i d acc s, ds[i]? = some d → I i acc s → chk s = true ∧ WP (fun o s' => I (i + 1) (acc ++ o.toList) s') .mk (f d s)) (hd : ∀ r s, I ds.length (acc ++ r) s → chk s = true ∧ K r s), WP K t (compLoop chk f ds s)
  | [], s, I, acc, h0, hs, hd => by
    have q := hd [] s (by simpa using h0)
    unfold compLoop
    rw [if_pos q.1, wp_ok]
    exact q.2
  | d :: ds, s, I, acc, h0, hs, hd => by
    obtain ⟨c, o, s', e, h⟩ := hs 0 d acc s rfl h0
    have ih := wp_compN (K := fun r s => K (o.toList ++ r) s) (t := .mk) (chk := chk) (f := f) (ds := ds) (s := s') (fun i => I (i + 1)) (acc ++ o.toList) h (fun i d acc s he hi => hs (i + 1) d acc s he hi) (fun r s h => hd (o.toList ++ r) s (by rw [← List.append_assoc]; exact h))
    unfold compLoop
    rw [if_pos c, wp_seq]
    refine ⟨o, s', e, ?_⟩
    show WP K .mk (seq _ _ s')
    rw [wp_seq]
    refine wp_mono ih fun a s h => ?_
    rw [wp_ret]
    cases o <;> exact h
/-- a comprehension whose turns change but the one name -/
theorem wp_compM {ω : Type} {K : List D → St → Prop} {t : Tag K} {chk : St → Bool} {f : D → M (Option D)} {ds : List D} (g : D → Option D) (st : ω → St) (w0 : ω) (hc : ∀ w, chk (st w) = true) (hb : ∀ d ∈ ds, ∀ w, WP (fun o s' => o = g d ∧ ∃ w', s' = st w') .mk (f d (st w))) (hk : ∀ w, K (ds.filterMap g) (st w)) : WP K t (compLoop chk f ds (st w0)) := by
  refine wp_compN (fun i acc s => acc = (ds.take i).filterMap g ∧ ∃ w, s = st w) [] ⟨by simp, w0, rfl⟩ ?_ ?_
  · rintro i d acc s he ⟨rfl, w, rfl⟩
    refine ⟨hc w, wp_mono (hb d (List.mem_of_getElem? he) w) ?_⟩
    rintro o s' ⟨rfl, w', rfl⟩
    refine ⟨?_, w', rfl⟩
    rw [List.take_succ, he, List.filterMap_append]
    show _ = _ ++ List.filterMap g [d]
    rw [List.filterMap_cons]
    cases h : g d <;> simp
  · rintro r s ⟨e, w, rfl⟩
    rw [List.nil_append, List.take_length] at e
    exact ⟨hc w, by rw [e]; exact hk w⟩
/-- the nums that p lets through -/
def keep (p : Int → Bool) (d : D) : Option D := match d with
  | .int x => if p x = true then some (.int x) else none
  | _ => none
theorem keep_nums {p : Int → Bool} : ∀ {L : List Int}, (nums L).filterMap (keep p) = nums (L.filter p)
  | [] => rfl
  | x :: r => by
    rw [nums_cons, List.filterMap_cons, List.filter_cons, keep_nums]
    unfold keep
    by_cases h : p x = true
    · simp only [h, if_true]; rfl
    · simp only [h, if_false]; rfl
theorem mem_nums {L : List Int} {d : D} (h : d ∈ nums L) : ∃ x, x ∈ L ∧ d = .int x := by
  unfold nums at h
  obtain ⟨x, hx, e⟩ := List.mem_map.mp h
  exact ⟨x, hx, e.symm⟩
theorem mem_span {lo x : Int} {n : Nat} : x ∈ span lo n ↔ lo ≤ x ∧ x < lo + n := by
  unfold span
  rw [List.mem_map]
  constructor
  · rintro ⟨j, hj, rfl⟩
    have := List.mem_range.mp hj
    omega
  · rintro ⟨h, h'⟩
    exact ⟨(x - lo).toNat, List.mem_range.mpr (by omega), by omega⟩
theorem span_lt {lo : Int} {n : Nat} : (span lo n).Pairwise (· < ·) := by
  unfold span
  rw [List.pairwise_map]
  exact List.Pairwise.imp (fun {a b} h => by omega) List.pairwise_lt_range
theorem nodup_lt {L : List Int} (h : L.Pairwise (· < ·)) : L.Nodup := List.Pairwise.imp (fun {a b} h e => by omega) h
theorem lt_of {L : List Int} (h : L.Pairwise (· ≤ ·)) (n : L.Nodup) : L.Pairwise (· < ·) := List.Pairwise.imp₂ (fun a b h h' => by omega) h n
theorem last_app {α : Type} {l : List α} {a : α} : (l ++ [a]).getLast? = some a := by simp
theorem nums_app {a b : List Int} : nums a ++ nums b = nums (a ++ b) := by simp [nums]
theorem cp_get {d : D} {S : List Ob} {t : TagC fun d' S' => d' = d ∧ S' = S} {m : RC} (h : CP (fun d' S' => d' = d ∧ S' = S) t m) : m = .ok d S := by
  obtain ⟨_, _, e, rfl, rfl⟩ := h
  exact e
theorem wp_for_cons {K : Fl → St → Prop} {t : Tag K} {chk : St → Bool} {f : D → M Fl} {d : D} {ds : List D} {s : St} : WP K t (forLoop chk f (d :: ds) s) = (chk s = true ∧ WP (forK K fun s => WP K .mk (forLoop chk f ds s)) .mk (f d s)) := by
  rw [forLoop]
  by_cases c : chk s = true
  · simp only [c, if_true, true_and, wp_seq]
    simp only [wq]
    congr 1
    funext o s'
    cases o with
    | nx => rfl
    | ct => rfl
    | bk => exact wq_ret
    | rt v => exact wq_ret
  · simp [c, wp_bad]
theorem wp_for_nil {K : Fl → St → Prop} {t : Tag K} {chk : St → Bool} {f : D → M Fl} {s : St} : WP K t (forLoop chk f [] s) = (chk s = true ∧ K .nx s) := by
  rw [forLoop]
  by_cases c : chk s = true
  · simp [c, wp_ok]
  · simp [c, wp_bad]
theorem numbered3 {a b c : D} : numbered 0 [a, b, c] = [.tup [.int 0, a], .tup [.int 1, b], .tup [.int 2, c]] := id rfl
def trues (n : Nat) : List D := List.replicate n (.bl true)
theorem all_trues : ∀ {n : Nat}, biD .all [.lst (trues n)] = some (.bl true) := by
  have h : ∀ n : Nat, bls? (trues n) = some (List.replicate n true) := fun n => by
    induction n with
    | zero => rfl
    | succ n ih =>
      show (bls? (trues n)).map (true :: ·) = _
      rw [ih]; rfl
  intro n
  show (bls? (trues n)).map (fun bs => D.bl (bs.all id)) = _
  rw [h]
  simp
theorem map_trues : ∀ {ds : List D}, ds.filterMap (fun _ => some (D.bl true)) = trues ds.length
  | [] => rfl
  | d :: r => by
    rw [List.filterMap_cons, map_trues]; rfl
/-- a comprehension whose turns are all true -/
theorem wp_compT {ω : Type} {K : List D → St → Prop} {t : Tag K} {chk : St → Bool} {f : D → M (Option D)} {ds : List D} (st : ω → St) (w0 : ω) (hc : ∀ w, chk (st w) = true) (hb : ∀ d ∈ ds, ∀ w, WP (fun o s' => o = some (.bl true) ∧ ∃ w', s' = st w') .mk (f d (st w))) (hk : ∀ w, K (trues ds.length) (st w)) : WP K t (compLoop chk f ds (st w0)) :=
  wp_compM (fun _ => some (.bl true)) st w0 hc hb fun w => by rw [map_trues]; exact hk w
/-! ### fields -/
theorem fld_ins {T : Tab} {f c : Nat} {fs : List D} : fldD T f (.ins c fs) = (fldIx T c f).bind fun j => fs[j]? := id rfl
def setFS (x : Slot) (j : Option Nat) (i : Nat) (v : D) (s : St) : Rs Unit := match x, j with
  | .owni c fs, some j => if j < fs.length then .ok () ⟨s.env.set i (.owni c (fs.set j v)), s.sto⟩ else if j = fs.length then .ok () ⟨s.env.set i (.owni c (fs ++ [v])), s.sto⟩ else .bad
  | _, _ => .bad
theorem wp_setFld {K : Unit → St → Prop} {t : Tag K} {T : Tab} {i f : Nat} {v : D} {env : List Slot} {S : List Ob} : WP K t (setFld T (.slt i) f v ⟨env, S⟩) = WP K t (match look env i with
    | .owni c fs => setFS (.owni c fs) (fldIx T c f) i v ⟨env, S⟩
    | _ => .bad) := by
  unfold setFld look
  cases h : env[i]? with
  | none => simp only [h]; rfl
  | some x =>
    cases x with
    | owni c fs =>
      simp only [h]
      show _ = WP K t (setFS (.owni c fs) (fldIx T c f) i v ⟨env, S⟩)
      cases fldIx T c f <;> rfl
    | _ => simp only [h]; rfl
theorem setFS_new {K : Unit → St → Prop} {t : Tag K} {c i j : Nat} {v : D} {fs : List D} {s : St} (h : fs.length = j) : WP K t (setFS (.owni c fs) (some j) i v s) = K () ⟨s.env.set i (.owni c (fs ++ [v])), s.sto⟩ := by
  subst h
  unfold setFS
  simp only [Nat.lt_irrefl, if_false, if_true, wp_ok]
theorem numb_getN : ∀ {ds : List D} {n i : Nat} {d : D}, (numbered n ds)[i]? = some d → ∃ x, ds[i]? = some x ∧ d = .tup [.int ((n + i : Nat) : Int), x]
  | [], n, i, d, h => by
    unfold numbered at h
    cases h
  | x :: r, n, 0, d, h => by
    unfold numbered at h
    cases h
    exact ⟨x, rfl, rfl⟩
  | x :: r, n, i + 1, d, h => by
    unfold numbered at h
    rw [List.getElem?_cons_succ] at h
    obtain ⟨y, h1, h2⟩ := numb_getN h
    exact ⟨y, h1, by rw [h2]; congr 4; omega⟩
theorem numb_get {ds : List D} {i : Nat} {d : D} (h : (numbered 0 ds)[i]? = some d) : ∃ x, ds[i]? = some x ∧ d = .tup [.int i, x] := by
  obtain ⟨x, h1, h2⟩ := numb_getN h
  exact ⟨x, h1, by rw [h2]; congr 4; omega⟩
theorem numb_lenN : ∀ {ds : List D} {n : Nat}, (numbered n ds).length = ds.length
  | [], n => rfl
  | x :: r, n => by
    unfold numbered
    rw [List.length_cons, numb_lenN]; rfl
theorem rngd_get {lo : Int} {n i : Nat} {d : D} (h : (rngI lo (-1) n)[i]? = some d) : i < n ∧ d = .int (lo - i) := by
  unfold rngI at h
  rw [List.getElem?_map] at h
  by_cases hi : i < n
  · rw [List.getElem?_range hi] at h
    refine ⟨hi, ?_⟩
    cases h
    show D.int (lo + (i : Int) * -1) = _
    congr 1
    omega
  · rw [List.getElem?_eq_none (by simp; omega)] at h
    cases h
theorem rngd_len {lo st : Int} {n : Nat} : (rngI lo st n).length = n := by simp [rngI]
theorem slc_from {ds : List D} {i : Int} (h0 : 0 ≤ i) (h1 : i.toNat ≤ ds.length) : slcD (.lst ds) (some i) none = some (.lst (ds.drop i.toNat)) := by
  show some (D.lst (cut ds (if i < 0 then (i + ds.length).toNat else min i.toNat ds.length) ds.length)) = _
  rw [if_neg (by omega), Nat.min_eq_left h1]
  unfold cut
  rw [List.take_of_length_le (by rw [List.length_drop]; omega)]
theorem setX_m1 {K : Unit → St → Prop} {t : Tag K} {y a v : D} {r : List D} {s : St} : WP K t (setX (.lst (r ++ [a])) y (-1) v s) = WP K t (putList y (r ++ [v]) s) := by
  have e : atI (r ++ [a]) (-1) = some a := by rw [at_m1]; exact last_app
  have i : (if (0 : Int) ≤ -1 then ((-1 : Int)).toNat else ((-1 : Int) + ((r ++ [a]).length : Nat)).toNat) = r.length := by
    rw [if_neg (by decide)]
    simp only [List.length_append, List.length_cons, List.length_nil]
    omega
  unfold setX
  simp only [e]
  rw [i]
  congr 2
  simp
/-! ### the greatest of many -/
def Mx (v : Nat → Nat → Int) (P : Nat → Nat → Prop) (m : Int) : Prop := 0 ≤ m ∧ (∀ i j, P i j → v i j ≤ m) ∧ (m = 0 ∨ ∃ i j, P i j ∧ v i j = m)
theorem Mx.zero {v : Nat → Nat → Int} {P : Nat → Nat → Prop} (h : ∀ i j, ¬ P i j) : Mx v P 0 := ⟨Int.le_refl _, fun i j p => (h i j p).elim, .inl rfl⟩
theorem Mx.congr {v : Nat → Nat → Int} {P Q : Nat → Nat → Prop} {m : Int} (h : Mx v P m) (e : ∀ i j, P i j ↔ Q i j) : Mx v Q m := ⟨h.1, fun i j q => h.2.1 i j ((e i j).mpr q), h.2.2.imp id fun ⟨i, j, p, q⟩ => ⟨i, j, (e i j).mp p, q⟩⟩
theorem Mx.step {v : Nat → Nat → Int} {P Q : Nat → Nat → Prop} {m : Int} {a b : Nat} (h : Mx v P m) (e : ∀ i j, Q i j ↔ P i j ∨ (i = a ∧ j = b)) : Mx v Q (max m (v a b)) := by
  refine ⟨by have := h.1; omega, fun i j q => ?_, ?_⟩
  · rcases (e i j).mp q with p | ⟨rfl, rfl⟩
    · have := h.2.1 i j p; omega
    · omega
  · by_cases c : m ≤ v a b
    · exact .inr ⟨a, b, (e a b).mpr (.inr ⟨rfl, rfl⟩), by omega⟩
    · rcases h.2.2 with z | ⟨i, j, p, q⟩
      · exact .inl (by omega)
      · exact .inr ⟨i, j, (e i j).mpr (.inl p), by omega⟩
theorem Mx.uniq {v : Nat → Nat → Int} {P : Nat → Nat → Prop} {m n : Int} (h : Mx v P m) (g : Mx v P n) : m = n := by
  have key : ∀ {m n : Int}, Mx v P m → Mx v P n → m ≤ n := fun {m n} h g => by
    rcases h.2.2 with z | ⟨i, j, p, q⟩
    · have := g.1; omega
    · have := g.2.1 i j p; omega
  have := key h g
  have := key g h
  omega
theorem at_ib {α : Type} {c : Bool} {x y : α} : atI [x, y] (if c = true then 1 else 0) = some (if c = true then y else x) := by cases c <;> rfl
theorem at_ibI {c : Bool} {x y : Int} : atI [D.int x, D.int y] (if c = true then 1 else 0) = some (.int (if c = true then y else x)) := by cases c <;> rfl
theorem bin_powI {a b : Int} : bin .pow (.int a) (.int b) = if (0 ≤ b ∧ b ≤ 1000000) ∧ a.natAbs < 18446744073709551616 then some (.int (a ^ b.toNat)) else none := id rfl
theorem take_min {α : Type} {l : List α} {i : Nat} : l.take (min i l.length) = l.take i := by
  by_cases h : i ≤ l.length
  · rw [Nat.min_eq_left h]
  · rw [Nat.min_eq_right (by omega), List.take_length, List.take_of_length_le (by omega)]
theorem slcT_to {ds : List D} {i : Int} (h : 0 ≤ i) : slcD (.tup ds) none (some i) = some (.tup (ds.take i.toNat)) := by
  show some (D.tup (cut ds 0 (if i < 0 then (i + ds.length).toNat else min i.toNat ds.length))) = _
  rw [if_neg (by omega)]
  unfold cut
  rw [Nat.sub_zero, List.drop_zero, take_min]
theorem slcL_to {ds : List D} {i : Int} (h : 0 ≤ i) : slcD (.lst ds) none (some i) = some (.lst (ds.take i.toNat)) := by
  show some (D.lst (cut ds 0 (if i < 0 then (i + ds.length).toNat else min i.toNat ds.length))) = _
  rw [if_neg (by omega)]
  unfold cut
  rw [Nat.sub_zero, List.drop_zero, take_min]
/-- a while: I m holds where at most m turns are left -/
theorem wp_whl {K : Fl → St → Prop} {t : Tag K} {c : M D} {f : M Fl} (I : Nat → St → Prop) (hs : ∀ m s, I m s → WP (fun u s1 => WP (forK K fun s2 => ∃ j, m = j + 1 ∧ I j s2) .mk (brS u (f s1) (.ok .bk s1))) .mk (c s)) : ∀ (n m : Nat) (s : St), m < n → I m s → WP K t (whlLoop c f n s)
  | 0, m, s, h, _ => (Nat.not_lt_zero _ h).elim
  | n + 1, m, s, h, hi => by
    unfold whlLoop
    rw [wp_seq]
    refine wp_mono (hs m s hi) fun u s1 h1 => ?_
    cases u with
    | bl b =>
      cases b with
      | true =>
        obtain ⟨o, s2, e, q⟩ := h1
        show WP K .mk (seq f _ s1)
        rw [wp_seq]
        refine ⟨o, s2, e, ?_⟩
        have on : (∃ j, m = j + 1 ∧ I j s2) → WP K .mk (whlLoop c f n s2) := fun ⟨j, e, i⟩ => wp_whl I hs n j s2 (by omega) i
        cases o with
        | nx => exact on q
        | ct => exact on q
        | bk => exact ⟨_, _, rfl, q⟩
        | rt v => exact ⟨_, _, rfl, q⟩
      | false =>
        rw [br_false, wp_ok] at h1
        exact ⟨_, _, rfl, h1⟩
    | _ => exact (by obtain ⟨_, _, e, _⟩ := h1; cases e)
theorem mtX_popS {K : D → St → Prop} {t : Tag K} {u a : D} {r : List D} {s : St} : WP K t (mtX .pop (.lst (r ++ [a])) u [] s) = WP (fun _ s => K a s) .mk (putList u r s) := by
  unfold mtX
  have e : (r ++ [a])[(r ++ [a]).length - 1]? = some a := by simp
  simp only [e, List.dropLast_concat, wp_bind]
  simp only [wq, wq_ret]
theorem eq_nils {L : List Int} : cmpD .eq (.lst (nums L)) (.lst []) = some (decide (L = [])) := by
  show (if scalD _ _ || (D.plains 59 (nums L) && D.plains 59 []) then some (D.eqvs (nums L) []) else none) = _
  rw [plain_ints]
  cases L <;> rfl
theorem ne_nils {L : List Int} : cmpD .ne (.lst (nums L)) (.lst []) = some (!decide (L = [])) := by
  show (cmpD .eq (.lst (nums L)) (.lst [])).map (!·) = _
  rw [eq_nils]; rfl
theorem nums_snoc {L : List Int} {x : Int} : nums (L ++ [x]) = nums L ++ [.int x] := by simp [nums]
theorem snoc_cases {α : Type} (l : List α) : l = [] ∨ ∃ r a, l = r ++ [a] := by
  rcases List.eq_nil_or_concat l with h | ⟨r, a, h⟩
  · exact .inl h
  · exact .inr ⟨r, a, by rw [h, List.concat_eq_append]⟩
theorem all_bls {bs : List Bool} : biD .all [.lst (bs.map .bl)] = some (.bl (bs.all id)) := by
  have h : ∀ bs : List Bool, bls? (bs.map .bl) = some bs := fun bs => by
    induction bs with
    | nil => rfl
    | cons b r ih =>
      show (bls? (r.map .bl)).map (b :: ·) = _
      rw [ih]; rfl
  show (bls? (bs.map .bl)).map (fun bs => D.bl (bs.all id)) = _
  rw [h]; rfl
theorem any_bls {bs : List Bool} : biD .any [.lst (bs.map .bl)] = some (.bl (bs.any id)) := by
  have h : ∀ bs : List Bool, bls? (bs.map .bl) = some bs := fun bs => by
    induction bs with
    | nil => rfl
    | cons b r ih =>
      show (bls? (r.map .bl)).map (b :: ·) = _
      rw [ih]; rfl
  show (bls? (bs.map .bl)).map (fun bs => D.bl (bs.any id)) = _
  rw [h]; rfl
theorem pk_nil' {α : Type} {xs : List α} : pk [] xs = [] := id rfl
theorem pk_cons' {α : Type} {i : Nat} {ix : List Nat} {xs : List α} : pk (i :: ix) xs = (xs[i]?).toList ++ pk ix xs := by
  show List.filterMap _ _ = _
  rw [List.filterMap_cons]
  cases xs[i]? <;> rfl
/-- an int's image -/
def mapI (f : Int → Int) (d : D) : Option D := match d with
  | .int x => some (.int (f x))
  | _ => none
theorem mapI_nums {f : Int → Int} : ∀ {L : List Int}, (nums L).filterMap (mapI f) = nums (L.map f)
  | [] => rfl
  | x :: r => by
    rw [nums_cons, List.filterMap_cons, List.map_cons, nums_cons, mapI_nums]; rfl
theorem take_nums {L : List Int} {n : Nat} : (nums L).take n = nums (L.take n) := by simp [nums]
theorem drop_nums {L : List Int} {n : Nat} : (nums L).drop n = nums (L.drop n) := by simp [nums]
theorem rev_nums {L : List Int} : (nums L).reverse = nums L.reverse := by simp [nums]
theorem snoc2_get {α : Type} {S : List α} {a b : α} : (S ++ [a] ++ [b])[S.length]? = some a := by
  rw [List.getElem?_append_left (by simp)]
  exact List.getElem?_concat_length
theorem keep_yes {p : Int → Bool} {x : Int} (h : p x = true) : some (D.int x) = keep p (.int x) := by
  show _ = if p x = true then some (D.int x) else none
  rw [if_pos h]
theorem keep_no {p : Int → Bool} {x : Int} (h : p x = false) : none = keep p (.int x) := by
  show _ = if p x = true then some (D.int x) else none
  rw [if_neg (by rw [h]; exact Bool.false_ne_true)]
/-- a comprehension over the images of a list's things, whose turns change but st's part -/
theorem wp_compI {α ω : Type} {K : List D → St → Prop} {t : Tag K} {chk : St → Bool} {f : D → M (Option D)} {φ : α → D} {Ls : List α} (g : α → Option D) (st : ω → St) (w0 : ω) (hc : ∀ w, chk (st w) = true) (hb : ∀ a ∈ Ls, ∀ w, WP (fun o s' => o = g a ∧ ∃ w', s' = st w') .mk (f (φ a) (st w))) (hk : ∀ w, K (Ls.filterMap g) (st w)) : WP K t (compLoop chk f (Ls.map φ) (st w0)) := by
  refine wp_compN (fun i acc s => acc = (Ls.take i).filterMap g ∧ ∃ w, s = st w) [] ⟨by simp, w0, rfl⟩ ?_ ?_
  · rintro i d acc s he ⟨rfl, w, rfl⟩
    rw [List.getElem?_map] at he
    obtain ⟨a, ha, rfl⟩ := Option.map_eq_some_iff.mp he
    refine ⟨hc w, wp_mono (hb a (List.mem_of_getElem? ha) w) ?_⟩
    rintro o s' ⟨rfl, w', rfl⟩
    refine ⟨?_, w', rfl⟩
    rw [List.take_succ, ha, List.filterMap_append]
    show _ = _ ++ List.filterMap g [a]
    rw [List.filterMap_cons]
    cases h : g a <;> simp
  · rintro r s ⟨e, w, rfl⟩
    rw [List.length_map, List.nil_append, List.take_length] at e
    exact ⟨hc w, by rw [e]; exact hk w⟩
theorem fm_some {α : Type} {h : α → D} : ∀ {Ls : List α}, Ls.filterMap (fun a => some (h a)) = Ls.map h
  | [] => rfl
  | a :: r => by rw [List.filterMap_cons, fm_some]; rfl
theorem fm_if {α : Type} {p : α → Bool} {h : α → D} : ∀ {Ls : List α}, Ls.filterMap (fun a => if p a = true then some (h a) else none) = (Ls.filter p).map h
  | [] => rfl
  | a :: r => by
    rw [List.filterMap_cons, List.filter_cons, fm_if]
    by_cases c : p a = true
    · simp only [c, if_true]; rfl
    · simp only [c, if_false]; rfl
/-- ints that pass p, by their own loop -/
theorem wp_keep {ω : Type} {K : List D → St → Prop} {t : Tag K} {chk : St → Bool} {f : D → M (Option D)} {L : List Int} (p : Int → Bool) (st : ω → St) (w0 : ω) (hc : ∀ w, chk (st w) = true) (hb : ∀ x ∈ L, ∀ w, WP (fun o s' => o = keep p (.int x) ∧ ∃ w', s' = st w') .mk (f (.int x) (st w))) (hk : ∀ w, K (nums (L.filter p)) (st w)) : WP K t (compLoop chk f (nums L) (st w0)) := by
  refine wp_compM (keep p) st w0 hc (fun d hd w => ?_) (fun w => by rw [keep_nums]; exact hk w)
  obtain ⟨x, hx, rfl⟩ := mem_nums hd
  exact hb x hx w
/-- what a turn of a search ends with -/
def srK {ω : Type} (st : ω → St) (H : Prop) (o : Fl) (s' : St) : Prop := (∃ w', s' = st w') ∧ ((o = .rt (.bl true) ∧ H) ∨ ((o = .nx ∨ o = .ct) ∧ ¬ H))
theorem srK_rt {ω : Type} {st : ω → St} {H : Prop} {s' : St} : srK st H (.rt (.bl true)) s' = ((∃ w', s' = st w') ∧ H) := by simp [srK]
theorem srK_nx {ω : Type} {st : ω → St} {H : Prop} {s' : St} : srK st H .nx s' = ((∃ w', s' = st w') ∧ ¬ H) := by simp [srK]
theorem srK_ct {ω : Type} {st : ω → St} {H : Prop} {s' : St} : srK st H .ct s' = ((∃ w', s' = st w') ∧ ¬ H) := by simp [srK]
/-- a loop that looks for a first hit and then returns True -/
theorem wp_search {α ω : Type} {K : Fl → St → Prop} {t : Tag K} {chk : St → Bool} {f : D → M Fl} {φ : α → D} {Ls : List α} (Hit : α → Prop) (st : ω → St) (w0 : ω) (hc : ∀ w, chk (st w) = true)
    (hb : ∀ a ∈ Ls, ∀ w, WP (srK st (Hit a)) .mk (f (φ a) (st w)))
    (hT : ∀ w, (∃ a ∈ Ls, Hit a) → K (.rt (.bl true)) (st w)) (hF : ∀ w, (¬ ∃ a ∈ Ls, Hit a) → K .nx (st w)) : WP K t (forLoop chk f (Ls.map φ) (st w0)) := by
  refine wp_forN (fun i s => (∃ w, s = st w) ∧ ∀ a ∈ Ls.take i, ¬ Hit a) ⟨⟨w0, rfl⟩, fun a h => by simp at h⟩ ?_ ?_
  · rintro i d s he ⟨⟨w, rfl⟩, hn⟩
    rw [List.getElem?_map] at he
    obtain ⟨a, ha, rfl⟩ := Option.map_eq_some_iff.mp he
    have hm := List.mem_of_getElem? ha
    refine ⟨hc w, wp_mono (hb a hm w) ?_⟩
    rintro o s' ⟨⟨w', rfl⟩, ⟨rfl, h⟩ | ⟨ho, h⟩⟩
    · exact hT w' ⟨a, hm, h⟩
    · have q : (∃ w, st w' = st w) ∧ ∀ b ∈ Ls.take (i + 1), ¬ Hit b := by
        refine ⟨⟨w', rfl⟩, fun b hb => ?_⟩
        rw [List.take_succ, ha] at hb
        rcases List.mem_append.mp hb with hb | hb
        · exact hn b hb
        · rw [Option.toList_some, List.mem_singleton] at hb
          subst hb
          exact h
      rcases ho with rfl | rfl <;> exact q
  · rintro s ⟨⟨w, rfl⟩, hn⟩
    rw [List.length_map, List.take_length] at hn
    exact ⟨hc w, hF w fun ⟨a, ha, h⟩ => hn a ha h⟩
end Dn

namespace K33
open PySem Dn
def b_near_slack : Ss := (.cons (.ret (.bin .sub (.bin .sub (.bin .sub (.bin .mul (.int 2) (.fld (.var 0) 0)) (.fld (.var 0) 1)) (.var 1)) (.fld (.var 0) 2))) .nil)
abbrev f_near_slack : Nat := 0
def fn_near_slack : Fn := ⟨2, 2, b_near_slack⟩
def b_far_slack : Ss := (.cons (.ret (.bin .sub (.bin .sub (.bin .sub (.bin .add (.fld (.var 0) 3) (.fld (.var 0) 4)) (.fld (.var 0) 1)) (.var 1)) (.fld (.var 0) 2))) .nil)
abbrev f_far_slack : Nat := 1
def fn_far_slack : Fn := ⟨2, 2, b_far_slack⟩
def b_kind_of : Ss := (.cons (.ite (.cmp .le (.call 0 (.cons (.var 0) (.cons (.var 1) .nil)) []) (.int 0)) (.cons (.ret (.gint "NEAR" 1)) .nil) .nil) (.cons (.ite (.and (.cons (.cmp .gt (.var 1) (.int 0)) (.cons (.cmp .le (.call 1 (.cons (.var 0) (.cons (.var 1) .nil)) []) (.int 0)) .nil))) (.cons (.ret (.gint "FAR" 2)) .nil) .nil) (.cons (.ret .non) .nil)))
abbrev f_kind_of : Nat := 2
def fn_kind_of : Fn := ⟨2, 2, b_kind_of⟩
def b_least_apart : Ss := (.cons (.asg (.nm 2) (.call 2 (.cons (.var 0) (.cons (.var 1) .nil)) [])) (.cons (.ite (.isc false (.var 2) .non) (.cons (.ret .non) .nil) .nil) (.cons (.asg (.nm 3) (.ifx (.cmp .eq (.var 2) (.gint "NEAR" 1)) (.fld (.var 0) 0) (.bi .max (.cons (.fld (.var 0) 0) (.cons (.fld (.var 0) 4) .nil))))) (.cons (.ret (.bi .max (.cons (.int 0) (.cons (.bin .sub (.bin .sub (.bin .add (.fld (.var 0) 0) (.var 3)) (.fld (.var 0) 1)) (.fld (.var 0) 2)) .nil)))) .nil))))
abbrev f_least_apart : Nat := 3
def fn_least_apart : Fn := ⟨2, 4, b_least_apart⟩
def b_is_integer : Ss := (.cons (.ret (.and (.cons (.isi (.var 0) [.int]) (.cons (.not (.isi (.var 0) [.bool])) .nil)))) .nil)
abbrev f_is_integer : Nat := 4
def fn_is_integer : Fn := ⟨1, 1, b_is_integer⟩
def b_is_number : Ss := (.cons (.ret (.and (.cons (.call 4 (.cons (.var 0) .nil) []) (.cons (.cmp .ge (.var 0) (.int 0)) (.cons (.or (.cons (.isc false (.var 1) .non) (.cons (.cmp .le (.var 0) (.var 1)) .nil))) .nil))))) .nil)
abbrev f_is_number : Nat := 5
def fn_is_number : Fn := ⟨2, 2, b_is_number⟩
def b_Numbers___init__ : Ss := (.cons (.ite (.or (.cons (.not (.call 5 (.cons (.var 1) (.cons (.gint "MOST_COPIES" 12) .nil)) [])) (.cons (.cmp .eq (.var 1) (.int 0)) .nil))) (.cons .never .nil) .nil) (.cons (.ite (.not (.call 5 (.cons (.var 2) (.cons (.var 1) .nil)) [])) (.cons .never .nil) .nil) (.cons (.ite (.or (.cons (.not (.call 5 (.cons (.var 3) (.cons (.gint "MOST_LAG" 200) .nil)) [])) (.cons (.cmp .eq (.var 3) (.int 0)) .nil))) (.cons .never .nil) .nil) (.cons (.fors (.tup (.cons (.nm 7) (.cons (.nm 8) .nil))) (.enum (.tup (.cons (.var 4) (.cons (.var 5) (.cons (.var 6) .nil))))) (.cons (.ite (.or (.cons (.not (.call 5 (.cons (.var 8) (.cons (.var 1) .nil)) [])) (.cons (.cmp .eq (.var 8) (.int 0)) .nil))) (.cons .never .nil) .nil) .nil)) (.cons (.asg (.fld (.var 0) 1) (.var 1)) (.cons (.asg (.fld (.var 0) 2) (.var 2)) (.cons (.asg (.fld (.var 0) 5) (.var 3)) (.cons (.asg (.fld (.var 0) 0) (.var 4)) (.cons (.asg (.fld (.var 0) 4) (.var 5)) (.cons (.asg (.fld (.var 0) 3) (.var 6)) .nil))))))))))
abbrev f_Numbers___init__ : Nat := 6
def fn_Numbers___init__ : Fn := ⟨7, 9, b_Numbers___init__⟩
def b__law_heap : Ss := (.cons (.par 2 3 (.comp [1] (.nm 1) (.seq (.slc (.var 0) .nil (.cons (.int 60) .nil))) .nil (.bin .add (.bin .mul (.int 2) (.bi .abs (.cons (.var 1) .nil))) (.bi .int (.cons (.cmp .lt (.var 1) (.int 0)) .nil)))) (.int 70979)) (.cons (.fors (.nm 1) (.seq (.var 2)) (.cons (.asg (.nm 3) (.bin .mod (.bi .int (.cons (.bin .add (.bin .add (.bin .mul (.var 3) (.int 69621)) (.bin .mod (.bi .int (.cons (.var 1) .nil)) (.int 2147483563))) (.int 29)) .nil)) (.int 2147483647))) .nil)) (.cons (.ret (.gal (.lst (.cons (.gal (.rev (.comp [1] (.nm 1) (.seq (.var 2)) (.cons (.cmp .ge (.var 1) (.bin .pow (.int 10) (.int 18))) .nil) (.var 1)))) (.cons (.var 3) .nil))))) .nil)))
abbrev f__law_heap : Nat := 7
def fn__law_heap : Fn := ⟨1, 4, b__law_heap⟩
def b__law_draw : Ss := (.cons (.whl 2000000 (.and (.cons (.cmp .ne (.idx (.var 0) (.int 0)) (.lst .nil)) (.cons (.cmp .eq (.idx (.idx (.var 0) (.int 0)) (.neg (.int 1))) (.int 0)) .nil))) (.cons (.expr (.mt .pop (.idx (.var 0) (.int 0)) .nil)) .nil)) (.cons (.ite (.cmp .ne (.idx (.var 0) (.int 0)) (.lst .nil)) (.cons (.asg (.nm 2) (.mt .pop (.idx (.var 0) (.int 0)) .nil)) (.cons (.expr (.mt .append (.idx (.var 0) (.int 0)) (.cons (.bin .fdiv (.var 2) (.var 1)) .nil))) (.cons (.ret (.bin .mod (.bi .int (.cons (.var 2) .nil)) (.var 1))) .nil))) .nil) (.cons (.asg (.sub (.var 0) (.int 1)) (.bin .mod (.bi .int (.cons (.bin .add (.bin .mul (.idx (.var 0) (.int 1)) (.int 48271)) (.int 17)) .nil)) (.int 2147483647))) (.cons (.ret (.bin .mod (.bi .int (.cons (.bin .fdiv (.idx (.var 0) (.int 1)) (.int 32)) .nil)) (.var 1))) .nil))))
abbrev f__law_draw : Nat := 8
def fn__law_draw : Fn := ⟨2, 3, b__law_draw⟩
def b__law_pick : Ss := (.cons (.ret (.idx (.var 1) (.call 8 (.cons (.var 0) (.cons (.bi .len (.cons (.var 1) .nil)) .nil)) []))) .nil)
abbrev f__law_pick : Nat := 9
def fn__law_pick : Fn := ⟨2, 2, b__law_pick⟩
def b__law_like : Ss := (.cons (.ite (.isi (.var 1) [.tuple]) (.cons (.ret (.and (.cons (.isi (.var 0) [.tuple]) (.cons (.cmp .eq (.bi .len (.cons (.var 0) .nil)) (.bi .len (.cons (.var 1) .nil))) (.cons (.bi .all (.cons (.comp [2] (.nm 2) (.rng (.cons (.bi .len (.cons (.var 1) .nil)) .nil)) .nil (.call 10 (.cons (.idx (.var 0) (.var 2)) (.cons (.idx (.var 1) (.var 2)) .nil)) [])) .nil)) .nil))))) .nil) .nil) (.cons (.ite (.isc false (.var 1) .non) (.cons (.ret (.isc false (.var 0) .non)) .nil) .nil) (.cons (.ite (.isi (.var 1) [.bool]) (.cons (.ret (.ifx (.var 1) (.isc false (.var 0) (.bl true)) (.isc false (.var 0) (.bl false)))) .nil) .nil) (.cons (.ite (.isi (.var 1) [.int]) (.cons (.ret (.and (.cons (.isi (.var 0) [.int]) (.cons (.not (.isi (.var 0) [.bool])) (.cons (.cmp .eq (.var 0) (.var 1)) .nil))))) .nil) .nil) (.cons (.ret (.and (.cons (.isi (.var 0) [.str]) (.cons (.cmp .eq (.var 0) (.var 1)) .nil)))) .nil)))))
abbrev f__law_like : Nat := 10
def fn__law_like : Fn := ⟨2, 3, b__law_like⟩
def b__law_numbers : Ss := (.cons (.asg (.nm 3) (.call 8 (.cons (.var 0) (.cons (.bin .add (.var 1) (.int 1)) .nil)) [])) (.cons (.asg (.nm 4) (.bin .add (.bin .add (.var 1) (.var 3)) (.var 2))) (.cons (.asg (.nm 5) (.bi .max (.cons (.int 1) (.cons (.bi .min (.cons (.var 1) (.cons (.call 9 (.cons (.var 0) (.cons (.lst (.cons (.bin .fdiv (.var 4) (.int 2)) (.cons (.bin .add (.bin .fdiv (.var 4) (.int 2)) (.int 1)) (.cons (.bin .fdiv (.bin .add (.var 4) (.int 3)) (.int 2)) (.cons (.bin .add (.int 1) (.call 8 (.cons (.var 0) (.cons (.var 1) .nil)) [])) .nil))))) .nil)) []) .nil))) .nil)))) (.cons (.asg (.nm 6) (.bin .add (.int 1) (.call 8 (.cons (.var 0) (.cons (.var 1) .nil)) []))) (.cons (.asg (.nm 7) (.bi .max (.cons (.int 1) (.cons (.bi .min (.cons (.var 1) (.cons (.call 9 (.cons (.var 0) (.cons (.lst (.cons (.bin .sub (.var 4) (.var 6)) (.cons (.bin .add (.bin .sub (.var 4) (.var 6)) (.int 1)) (.cons (.bin .sub (.bin .sub (.var 4) (.var 6)) (.int 1)) (.cons (.bin .add (.int 1) (.call 8 (.cons (.var 0) (.cons (.var 1) .nil)) [])) .nil))))) .nil)) []) .nil))) .nil)))) (.cons (.ret (.tup (.cons (.tup (.cons (.var 1) (.cons (.var 2) (.cons (.bin .add (.int 1) (.call 8 (.cons (.var 0) (.cons (.int 60) .nil)) [])) (.cons (.var 5) (.cons (.var 6) (.cons (.var 7) .nil))))))) (.cons (.var 3) .nil)))) .nil))))))
abbrev f__law_numbers : Nat := 11
def fn__law_numbers : Fn := ⟨3, 8, b__law_numbers⟩
def b__law_kind : Ss := (.cons (.asg (.tup (.cons (.nm 2) (.cons (.nm 3) (.cons (.nm 4) (.cons (.nm 5) (.cons (.nm 6) (.cons (.nm 7) .nil))))))) (.var 0)) (.cons (.ite (.cmp .le (.bin .mul (.int 2) (.var 5)) (.bin .add (.bin .add (.var 2) (.var 1)) (.var 3))) (.cons (.ret (.int 1)) .nil) .nil) (.cons (.ret (.ifx (.and (.cons (.cmp .gt (.var 1) (.int 0)) (.cons (.cmp .le (.bin .add (.var 7) (.var 6)) (.bin .add (.bin .add (.var 2) (.var 1)) (.var 3))) .nil))) (.int 2) .non)) .nil)))
abbrev f__law_kind : Nat := 12
def fn__law_kind : Fn := ⟨2, 8, b__law_kind⟩
def b__law_apart : Ss := (.cons (.asg (.tup (.cons (.nm 3) (.cons (.nm 4) (.cons (.nm 5) (.cons (.nm 6) (.cons (.nm 7) (.cons (.nm 8) .nil))))))) (.var 0)) (.cons (.asg (.nm 2) (.call 12 (.cons (.var 0) (.cons (.var 1) .nil)) [])) (.cons (.ite (.isc false (.var 2) .non) (.cons (.ret .non) .nil) .nil) (.cons (.ret (.bi .max (.cons (.int 0) (.cons (.bin .sub (.bin .sub (.bin .add (.var 6) (.ifx (.cmp .eq (.var 2) (.int 1)) (.var 6) (.bi .max (.cons (.var 6) (.cons (.var 7) .nil))))) (.var 3)) (.var 4)) .nil)))) .nil))))
abbrev f__law_apart : Nat := 13
def fn__law_apart : Fn := ⟨2, 9, b__law_apart⟩
def b__law_lots : Ss := (.cons (.asg (.nm 2) (.lst (.cons (.tup .nil) .nil))) (.cons (.fors (.nm 3) (.seq (.var 0)) (.cons (.asg (.nm 2) (.bin .add (.var 2) (.comp [4] (.nm 4) (.seq (.var 2)) (.cons (.cmp .lt (.bi .len (.cons (.var 4) .nil)) (.var 1)) .nil) (.bin .add (.var 4) (.tup (.cons (.var 3) .nil)))))) .nil)) (.cons (.ret (.comp [4] (.nm 4) (.seq (.var 2)) (.cons (.cmp .eq (.bi .len (.cons (.var 4) .nil)) (.var 1)) .nil) (.var 4))) .nil)))
abbrev f__law_lots : Nat := 14
def fn__law_lots : Fn := ⟨2, 5, b__law_lots⟩
def b__law_near : Ss := (.cons (.asg (.tup (.cons (.nm 4) (.cons (.nm 5) (.cons (.nm 6) (.cons (.nm 7) (.cons (.nm 8) (.cons (.nm 9) .nil))))))) (.var 0)) (.cons (.asg (.nm 2) (.call 14 (.cons (.lrg false (.cons (.var 1) (.cons (.bin .add (.var 4) (.var 1)) .nil))) (.cons (.var 7) .nil)) [])) (.cons (.fors (.nm 3) (.seq (.call 14 (.cons (.lrg false (.cons (.var 4) .nil)) (.cons (.var 7) .nil)) [])) (.cons (.ite (.bi .any (.cons (.comp [10] (.nm 10) (.seq (.var 2)) .nil (.cmp .le (.bi .len (.cons (.comp [11] (.nm 11) (.seq (.var 3)) (.cons (.cmp .isin (.var 11) (.var 10)) .nil) (.var 11)) .nil)) (.var 5))) .nil)) (.cons (.ret (.bl true)) .nil) .nil) .nil)) (.cons (.ret (.bl false)) .nil))))
abbrev f__law_near : Nat := 15
def fn__law_near : Fn := ⟨2, 12, b__law_near⟩
def b__law_far : Ss := (.cons (.asg (.tup (.cons (.nm 5) (.cons (.nm 6) (.cons (.nm 7) (.cons (.nm 8) (.cons (.nm 9) (.cons (.nm 10) .nil))))))) (.var 0)) (.cons (.asg (.nm 3) (.lrg false (.cons (.var 5) .nil))) (.cons (.fors (.nm 4) (.seq (.call 14 (.cons (.var 3) (.cons (.bi .min (.cons (.var 5) (.cons (.var 6) .nil))) .nil)) [])) (.cons (.fors (.nm 11) (.seq (.call 14 (.cons (.var 3) (.cons (.var 9) .nil)) [])) (.cons (.asg (.nm 12) (.comp [14] (.nm 14) (.seq (.var 11)) (.cons (.cmp .notin (.var 14) (.var 4)) .nil) (.var 14))) (.cons (.ite (.cmp .ge (.bin .sub (.var 5) (.bi .max (.cons (.int 0) (.cons (.bin .sub (.bi .len (.cons (.var 12) .nil)) (.var 1)) .nil)))) (.var 10)) (.cons (.fors (.nm 13) (.seq (.call 14 (.cons (.var 3) (.cons (.var 8) .nil)) [])) (.cons (.asg (.nm 15) (.bi .len (.cons (.comp [14] (.nm 14) (.seq (.var 3)) (.cons (.and (.cons (.cmp .notin (.var 14) (.var 4)) (.cons (.or (.cons (.cmp .isin (.var 14) (.var 13)) (.cons (.cmp .isin (.var 14) (.var 11)) .nil))) .nil))) .nil) (.var 14)) .nil))) (.cons (.ite (.cmp .ge (.bin .sub (.var 5) (.bi .max (.cons (.int 0) (.cons (.bin .sub (.var 15) (.var 2)) .nil)))) (.var 8)) (.cons (.ret (.bl true)) .nil) .nil) .nil))) .nil) .nil) .nil))) .nil)) (.cons (.ret (.bl false)) .nil))))
abbrev f__law_far : Nat := 16
def fn__law_far : Fn := ⟨3, 16, b__law_far⟩
def b__law_by_all : Ss := (.cons (.asg (.nm 2) (.idx (.var 0) (.int 0))) (.cons (.fors (.nm 3) (.rng (.cons (.bin .add (.var 1) (.int 1)) .nil)) (.cons (.ite (.call 15 (.cons (.var 0) (.cons (.var 3) .nil)) []) (.cons (.ret (.var 3)) .nil) .nil) .nil)) (.cons (.fors (.nm 3) (.rng (.cons (.bin .add (.var 1) (.int 1)) (.cons (.bin .add (.var 2) (.int 1)) .nil))) (.cons (.ite (.and (.cons (.cmp .gt (.var 1) (.int 0)) (.cons (.call 16 (.cons (.var 0) (.cons (.var 1) (.cons (.var 3) .nil))) []) .nil))) (.cons (.ret (.var 3)) .nil) .nil) .nil)) (.cons (.ret .non) .nil))))
abbrev f__law_by_all : Nat := 17
def fn__law_by_all : Fn := ⟨2, 4, b__law_by_all⟩
def b__law_right : Ss := (.cons (.asg (.nm 2) (.new 0 6 (.cons (.idx (.var 0) (.int 0)) (.cons (.idx (.var 0) (.int 1)) (.cons (.idx (.var 0) (.int 2)) (.cons (.idx (.var 0) (.int 3)) (.cons (.idx (.var 0) (.int 4)) (.cons (.idx (.var 0) (.int 5)) .nil)))))))) (.cons (.ite (.not (.call 10 (.cons (.call 2 (.cons (.var 2) (.cons (.var 1) .nil)) []) (.cons (.call 12 (.cons (.var 0) (.cons (.var 1) .nil)) []) .nil)) [])) (.cons (.ret (.bl false)) .nil) .nil) (.cons (.ite (.not (.call 10 (.cons (.callk 2 .nil (.cons (.var 1) (.cons (.var 2) .nil)) [1, 0]) (.cons (.call 12 (.cons (.var 0) (.cons (.var 1) .nil)) []) .nil)) [])) (.cons (.ret (.bl false)) .nil) .nil) (.cons (.ret (.call 10 (.cons (.callk 3 .nil (.cons (.var 1) (.cons (.var 2) .nil)) [1, 0]) (.cons (.call 13 (.cons (.var 0) (.cons (.var 1) .nil)) []) .nil)) [])) .nil))))
abbrev f__law_right : Nat := 18
def fn__law_right : Fn := ⟨2, 3, b__law_right⟩
def b_law : Ss := (.cons (.asg (.nm 1) (.call 7 (.cons (.var 0) .nil) [])) (.cons (.fors (.nm 2) (.rng (.cons (.int 8) .nil)) (.cons (.asg (.nm 3) (.bin .add (.int 1) (.call 8 (.cons (.var 1) (.cons (.int 12) .nil)) []))) (.cons (.asg (.tup (.cons (.nm 4) (.cons (.nm 5) .nil))) (.call 11 (.cons (.var 1) (.cons (.var 3) (.cons (.bi .min (.cons (.var 3) (.cons (.call 9 (.cons (.var 1) (.cons (.lst (.cons (.int 0) (.cons (.int 1) (.cons (.int 2) (.cons (.call 8 (.cons (.var 1) (.cons (.bin .add (.var 3) (.int 1)) .nil)) []) .nil))))) .nil)) []) .nil))) .nil))) [])) (.cons (.ite (.not (.call 18 (.cons (.var 4) (.cons (.bi .min (.cons (.var 5) (.cons (.var 3) .nil))) .nil)) [])) (.cons (.ret (.bl false)) .nil) .nil) .nil)))) (.cons (.fors (.nm 2) (.rng (.cons (.int 3) .nil)) (.cons (.asg (.nm 3) (.bin .add (.int 1) (.call 8 (.cons (.var 1) (.cons (.int 4) .nil)) []))) (.cons (.asg (.tup (.cons (.nm 4) (.cons (.nm 5) .nil))) (.call 11 (.cons (.var 1) (.cons (.var 3) (.cons (.call 8 (.cons (.var 1) (.cons (.bin .add (.bi .min (.cons (.var 3) (.cons (.int 2) .nil))) (.int 1)) .nil)) []) .nil))) [])) (.cons (.ite (.or (.cons (.not (.call 18 (.cons (.var 4) (.cons (.var 5) .nil)) [])) (.cons (.cmp .ne (.call 17 (.cons (.var 4) (.cons (.var 5) .nil)) []) (.call 13 (.cons (.var 4) (.cons (.var 5) .nil)) [])) .nil))) (.cons (.ret (.bl false)) .nil) .nil) .nil)))) (.cons (.ret (.and (.cons (.call 18 (.cons (.tup (.cons (.int 2) (.cons (.int 1) (.cons (.int 1) (.cons (.int 1) (.cons (.int 1) (.cons (.int 1) .nil))))))) (.cons (.int 1) .nil)) []) (.cons (.call 18 (.cons (.tup (.cons (.int 5) (.cons (.int 1) (.cons (.int 1) (.cons (.int 5) (.cons (.int 2) (.cons (.int 4) .nil))))))) (.cons (.int 1) .nil)) []) .nil)))) .nil))))
abbrev f_law : Nat := 19
def fn_law : Fn := ⟨1, 6, b_law⟩
def T : Tab := ⟨[fn_near_slack, fn_far_slack, fn_kind_of, fn_least_apart, fn_is_integer, fn_is_number, fn_Numbers___init__, fn__law_heap, fn__law_draw, fn__law_pick, fn__law_like, fn__law_numbers, fn__law_kind, fn__law_apart, fn__law_lots, fn__law_near, fn__law_far, fn__law_by_all, fn__law_right, fn_law], [[1, 2, 5, 0, 4, 3]]⟩
theorem T_near_slack : T.fns[f_near_slack]? = some fn_near_slack := rfl
theorem T_far_slack : T.fns[f_far_slack]? = some fn_far_slack := rfl
theorem T_kind_of : T.fns[f_kind_of]? = some fn_kind_of := rfl
theorem T_least_apart : T.fns[f_least_apart]? = some fn_least_apart := rfl
theorem T_is_integer : T.fns[f_is_integer]? = some fn_is_integer := rfl
theorem T_is_number : T.fns[f_is_number]? = some fn_is_number := rfl
theorem T_Numbers___init__ : T.fns[f_Numbers___init__]? = some fn_Numbers___init__ := rfl
theorem T__law_heap : T.fns[f__law_heap]? = some fn__law_heap := rfl
theorem T__law_draw : T.fns[f__law_draw]? = some fn__law_draw := rfl
theorem T__law_pick : T.fns[f__law_pick]? = some fn__law_pick := rfl
theorem T__law_like : T.fns[f__law_like]? = some fn__law_like := rfl
theorem T__law_numbers : T.fns[f__law_numbers]? = some fn__law_numbers := rfl
theorem T__law_kind : T.fns[f__law_kind]? = some fn__law_kind := rfl
theorem T__law_apart : T.fns[f__law_apart]? = some fn__law_apart := rfl
theorem T__law_lots : T.fns[f__law_lots]? = some fn__law_lots := rfl
theorem T__law_near : T.fns[f__law_near]? = some fn__law_near := rfl
theorem T__law_far : T.fns[f__law_far]? = some fn__law_far := rfl
theorem T__law_by_all : T.fns[f__law_by_all]? = some fn__law_by_all := rfl
theorem T__law_right : T.fns[f__law_right]? = some fn__law_right := rfl
theorem T_law : T.fns[f_law]? = some fn_law := rfl
end K33
namespace K33
open PySem Dn
/-! ### the heap of drawn numbers -/
/-- a heap: a list of what is left of the script, and the stir -/
def Heap' (S : List Ob) (r : Nat) : Prop := ∃ (q : Nat) (L : List Int) (st : Int), S[r]? = some (.lst [.ref q, .int st]) ∧ S[q]? = some (.lst (nums L)) ∧ L.length ≤ 60
theorem fmod_pos {a m : Int} (h : 0 < m) : 0 ≤ a.fmod m ∧ a.fmod m < m := ⟨Int.fmod_nonneg_of_pos a h, Int.fmod_lt_of_pos a h⟩
theorem set_get {S : List Ob} {r : Nat} {o : Ob} (h : S[r]? = some o) (x : Ob) : (S.set r x)[r]? = some x := List.getElem?_set_self (List.getElem?_eq_some_iff.mp h).1
theorem heap_ne {S : List Ob} {r q : Nat} {L : List Int} {st : Int} (h1 : S[r]? = some (.lst [.ref q, .int st])) (h2 : S[q]? = some (.lst (nums L))) : r ≠ q := by
  rintro rfl
  rw [h1] at h2
  cases L with
  | nil => cases h2
  | cons x l => cases h2
theorem set_ne {S : List Ob} {r q : Nat} {x : Ob} (h : q ≠ r) : (S.set q x)[r]? = S[r]? := List.getElem?_set_ne h
/-- a draw's end -/
def DrawP (r : Nat) (m : Int) (d : D) (S' : List Ob) : Prop := ∃ v : Int, d = .int v ∧ 0 ≤ v ∧ v < m ∧ Heap' S' r
theorem draw {k r : Nat} {S : List Ob} {m : Int} (hb : Heap' S r) (hm : 0 < m) (hm2 : m < 1000000000) (hk : 1 ≤ k) : CP (DrawP r m) .mk (callF T k f__law_draw none [.ref r, .int m] S) := by
  have m0 : ¬ m = 0 := by omega
  have m1 : m.natAbs < 1073741824 := by omega
  obtain ⟨q, L, st, h1, h2, hl⟩ := hb
  have ne := heap_ne h1 h2
  refine cp_run T__law_draw rfl hk ?_
  simp only [↓wp_int, ↓wp_str, ↓wp_bl, ↓wp_non, ↓wp_gint, ↓wp_gcls, ↓wp_var, ↓wp_tup, ↓wp_lst, ↓wp_bin, ↓wp_neg, ↓wp_cmp, ↓wp_isc, ↓wp_chain, ↓wp_and, ↓wp_or, ↓wp_and1, ↓wp_and2, ↓wp_or1, ↓wp_or2, ↓wp_not, ↓wp_ifx, ↓wp_idx, ↓wp_slc, ↓wp_rev, ↓wp_fld, ↓wp_call, ↓wp_callk, ↓wp_new, ↓wp_bi, ↓wp_lrg, ↓wp_isi, ↓wp_mt, ↓wp_comp, ↓wp_gal, ↓wp_evP0, ↓wp_evP1, ↓wp_nil, ↓wp_cons, ↓wp_nilB, ↓wp_consB, ↓wp_ts0, ↓wp_ts1, ↓wo_lst, ↓wo_comp, ↓wo_lrg, ↓wo_list, ↓wo_sorted, ↓wo_rev, ↓wo_add, ↓wo_mul, ↓wi_seq, ↓wi_rng, ↓wi_enum, ↓wt_nm, ↓wt_tup, ↓wt_nil, ↓wt_cons, ↓wt_sub, ↓wt_fld, ↓ws_nil, ↓ws_asg, ↓ws_aown, ↓ws_par, ↓ws_expr, ↓ws_ret, ↓ws_retn, ↓ws_pas, ↓ws_doc, ↓ws_brk, ↓ws_cnt, ↓ws_iteN, ↓ws_ite, ↓ws_for, ↓ws_whl, mtX_popS, eq_nils, ne_nils, pk_nil', pk_cons', Option.toList_some, Option.toList_none, bin_powI, at_ibI, slcT_to, slcL_to, List.take_succ_cons, List.take_zero, Int.reduceNeg, Int.zero_add, setX_m1, wp_setFld, setFS_new, fld_ins, wp_compF, wp_forF, wipe_nil, wipe_cons, restore_nil, restore_cons, wip_nil, wip_cons, wipS_emp, wipS_val, tok_none, rng1, rng2, rng3, rngL1, rngL2, tok_lst, tok_tup, forK_nx, forK_ct, forK_bk, forK_rt, Bool.and_self, Bool.and_true, Bool.true_and, Int.reduceToNat, Int.toNat_natCast, Int.reduceSub, Nat.reduceSub, nums_len, wp_ok, wp_bad, wp_bind, wp_ret, wp_some, wp_none, wp_ifS, wp_ifSm, wp_ifSb, Bool.false_eq_true, wp_if, br_true, br_false, br_dec, br_not, cbr_true, cbr_false, cbr_dec, cbr_not, wp_ofRC, wp_blk, cp_ok, endK_rt, endK_nx, orc_n, orc_s, look_zero, look_succ, has_zero, has_succ, set_zero, set_succ, getS_val, getS_ownT, getS_ownF, getS_owniT, getS_owniF, view_slt, view_ref, viewS_own, viewS_owni, viewO_lst, viewO_ins, view_int, view_bl, view_str, view_non, view_tup, view_lst, view_ins, go_nx, go_rt, go_bk, go_ct, bin_addI, bin_subI, bin_mulI, bin_fdivI, bin_modI, bin_addT, bin_addL, cmp_eqI, cmp_neI, cmp_ltI, cmp_leI, cmp_gtI, cmp_geI, idx_lst, idx_tup, at_0, at_1, at_2, at_3, at_4, at_5, at_m1, len_lst, len_tup, bi_int, bi_abs, bi_intb, bi_max2, bi_min2, bi_min3, bi_tupL, bi_tupT, bi_lstL, bi_lstT, seq_lst, seq_tup, lst_lst, bl_bl, int_int, isN_int, isN_bl, isN_non, isN_tup, isN_lst, isN_str, isN_ins, isB_int, isB_tup, isB_non, isB_str, isB_tt, isB_tf, isB_ft, isB_ff, lix_n, lix_t, lix_f, Int.cast_ofNat_Int, in_lst, in_tup, nin_lst, nin_tup, srt_lst, srt_tup, eq_tups, isT_int, isT_tup, isT_lst, isT_str, isT_bl, isT_non, isT_ins, isT_nil, putS_own, putR_lst, wp_putS, wp_putR, wp_setSub, setX_0, setX_1, setX_2, setX_3, wp_mtD, mtX_pop, mtX_app, Option.map_some, Option.map_none, Option.bind_some, Option.bind_none, List.map_cons, List.map_nil, List.append_nil, List.nil_append, List.cons_append, List.replicate_succ, List.replicate_zero, true_and, and_true, if_true, if_false, ne_eq, not_true_eq_false, not_false_eq_true, Bool.not_true, Bool.not_false, forall_const, forall_false, implies_true, false_implies, true_implies, reduceCtorEq, List.set_set, mulOk_l, mulOk_r, Int.reduceEq, Int.reduceLT, Int.reduceLE, na_lit, na_neg, Nat.reduceLT, Nat.reduceLeDiff, and_self, List.length_cons, List.length_nil, Tgs.len, Nat.reduceAdd, Nat.reduceEqDiff, eq_self, decide_true, decide_false, List.getElem?_cons_zero, List.getElem?_cons_succ, Bool.and_false, Bool.false_and, Bool.or_true, Bool.or_false, Bool.true_or, Bool.false_or, and_assoc, fn__law_draw, b__law_draw]
  refine wp_whl (fun n s => ∃ L S, s = ⟨[.val (.ref r), .val (.int m), .emp], S⟩ ∧ L.length ≤ n ∧ n ≤ 60 ∧ S[r]? = some (.lst [.ref q, .int st]) ∧ S[q]? = some (.lst (nums L))) ?_ 2000000 L.length _ (by omega) ⟨L, S, rfl, Nat.le_refl _, hl, h1, h2⟩
  rintro n s ⟨L, S, rfl, hn, hn2, h1, h2⟩
  have g1 := fun x => set_get h1 x
  have g2 := fun x => set_get h2 x
  have g3 := fun x => (set_ne (x := x) ne.symm).trans h1
  have g4 := fun x => (set_ne (x := x) ne).trans h2
  rcases snoc_cases L with rfl | ⟨L, x, rfl⟩
  · simp only [↓wp_int, ↓wp_str, ↓wp_bl, ↓wp_non, ↓wp_gint, ↓wp_gcls, ↓wp_var, ↓wp_tup, ↓wp_lst, ↓wp_bin, ↓wp_neg, ↓wp_cmp, ↓wp_isc, ↓wp_chain, ↓wp_and, ↓wp_or, ↓wp_and1, ↓wp_and2, ↓wp_or1, ↓wp_or2, ↓wp_not, ↓wp_ifx, ↓wp_idx, ↓wp_slc, ↓wp_rev, ↓wp_fld, ↓wp_call, ↓wp_callk, ↓wp_new, ↓wp_bi, ↓wp_lrg, ↓wp_isi, ↓wp_mt, ↓wp_comp, ↓wp_gal, ↓wp_evP0, ↓wp_evP1, ↓wp_nil, ↓wp_cons, ↓wp_nilB, ↓wp_consB, ↓wp_ts0, ↓wp_ts1, ↓wo_lst, ↓wo_comp, ↓wo_lrg, ↓wo_list, ↓wo_sorted, ↓wo_rev, ↓wo_add, ↓wo_mul, ↓wi_seq, ↓wi_rng, ↓wi_enum, ↓wt_nm, ↓wt_tup, ↓wt_nil, ↓wt_cons, ↓wt_sub, ↓wt_fld, ↓ws_nil, ↓ws_asg, ↓ws_aown, ↓ws_par, ↓ws_expr, ↓ws_ret, ↓ws_retn, ↓ws_pas, ↓ws_doc, ↓ws_brk, ↓ws_cnt, ↓ws_iteN, ↓ws_ite, ↓ws_for, ↓ws_whl, mtX_popS, eq_nils, ne_nils, pk_nil', pk_cons', Option.toList_some, Option.toList_none, bin_powI, at_ibI, slcT_to, slcL_to, List.take_succ_cons, List.take_zero, Int.reduceNeg, Int.zero_add, setX_m1, wp_setFld, setFS_new, fld_ins, wp_compF, wp_forF, wipe_nil, wipe_cons, restore_nil, restore_cons, wip_nil, wip_cons, wipS_emp, wipS_val, tok_none, rng1, rng2, rng3, rngL1, rngL2, tok_lst, tok_tup, forK_nx, forK_ct, forK_bk, forK_rt, Bool.and_self, Bool.and_true, Bool.true_and, Int.reduceToNat, Int.toNat_natCast, Int.reduceSub, Nat.reduceSub, nums_len, wp_ok, wp_bad, wp_bind, wp_ret, wp_some, wp_none, wp_ifS, wp_ifSm, wp_ifSb, Bool.false_eq_true, wp_if, br_true, br_false, br_dec, br_not, cbr_true, cbr_false, cbr_dec, cbr_not, wp_ofRC, wp_blk, cp_ok, endK_rt, endK_nx, orc_n, orc_s, look_zero, look_succ, has_zero, has_succ, set_zero, set_succ, getS_val, getS_ownT, getS_ownF, getS_owniT, getS_owniF, view_slt, view_ref, viewS_own, viewS_owni, viewO_lst, viewO_ins, view_int, view_bl, view_str, view_non, view_tup, view_lst, view_ins, go_nx, go_rt, go_bk, go_ct, bin_addI, bin_subI, bin_mulI, bin_fdivI, bin_modI, bin_addT, bin_addL, cmp_eqI, cmp_neI, cmp_ltI, cmp_leI, cmp_gtI, cmp_geI, idx_lst, idx_tup, at_0, at_1, at_2, at_3, at_4, at_5, at_m1, len_lst, len_tup, bi_int, bi_abs, bi_intb, bi_max2, bi_min2, bi_min3, bi_tupL, bi_tupT, bi_lstL, bi_lstT, seq_lst, seq_tup, lst_lst, bl_bl, int_int, isN_int, isN_bl, isN_non, isN_tup, isN_lst, isN_str, isN_ins, isB_int, isB_tup, isB_non, isB_str, isB_tt, isB_tf, isB_ft, isB_ff, lix_n, lix_t, lix_f, Int.cast_ofNat_Int, in_lst, in_tup, nin_lst, nin_tup, srt_lst, srt_tup, eq_tups, isT_int, isT_tup, isT_lst, isT_str, isT_bl, isT_non, isT_ins, isT_nil, putS_own, putR_lst, wp_putS, wp_putR, wp_setSub, setX_0, setX_1, setX_2, setX_3, wp_mtD, mtX_pop, mtX_app, Option.map_some, Option.map_none, Option.bind_some, Option.bind_none, List.map_cons, List.map_nil, List.append_nil, List.nil_append, List.cons_append, List.replicate_succ, List.replicate_zero, true_and, and_true, if_true, if_false, ne_eq, not_true_eq_false, not_false_eq_true, Bool.not_true, Bool.not_false, forall_const, forall_false, implies_true, false_implies, true_implies, reduceCtorEq, List.set_set, mulOk_l, mulOk_r, Int.reduceEq, Int.reduceLT, Int.reduceLE, na_lit, na_neg, Nat.reduceLT, Nat.reduceLeDiff, and_self, List.length_cons, List.length_nil, Tgs.len, Nat.reduceAdd, Nat.reduceEqDiff, eq_self, decide_true, decide_false, List.getElem?_cons_zero, List.getElem?_cons_succ, Bool.and_false, Bool.false_and, Bool.or_true, Bool.or_false, Bool.true_or, Bool.false_or, and_assoc, h1, h2, g1, m0]
    exact ⟨_, rfl, (fmod_pos hm).1, (fmod_pos hm).2, q, [], _, g1 _, (g4 _), by simp⟩
  · have hx : (L ++ [x] = []) = False := by simp
    rw [List.length_append, List.length_cons, List.length_nil] at hn
    have hn' := ne_nils (L := L ++ [x])
    rw [nums_snoc, show decide (L ++ [x] = []) = false by simp] at hn'
    by_cases x0 : x = 0
    · subst x0
      simp only [↓wp_int, ↓wp_str, ↓wp_bl, ↓wp_non, ↓wp_gint, ↓wp_gcls, ↓wp_var, ↓wp_tup, ↓wp_lst, ↓wp_bin, ↓wp_neg, ↓wp_cmp, ↓wp_isc, ↓wp_chain, ↓wp_and, ↓wp_or, ↓wp_and1, ↓wp_and2, ↓wp_or1, ↓wp_or2, ↓wp_not, ↓wp_ifx, ↓wp_idx, ↓wp_slc, ↓wp_rev, ↓wp_fld, ↓wp_call, ↓wp_callk, ↓wp_new, ↓wp_bi, ↓wp_lrg, ↓wp_isi, ↓wp_mt, ↓wp_comp, ↓wp_gal, ↓wp_evP0, ↓wp_evP1, ↓wp_nil, ↓wp_cons, ↓wp_nilB, ↓wp_consB, ↓wp_ts0, ↓wp_ts1, ↓wo_lst, ↓wo_comp, ↓wo_lrg, ↓wo_list, ↓wo_sorted, ↓wo_rev, ↓wo_add, ↓wo_mul, ↓wi_seq, ↓wi_rng, ↓wi_enum, ↓wt_nm, ↓wt_tup, ↓wt_nil, ↓wt_cons, ↓wt_sub, ↓wt_fld, ↓ws_nil, ↓ws_asg, ↓ws_aown, ↓ws_par, ↓ws_expr, ↓ws_ret, ↓ws_retn, ↓ws_pas, ↓ws_doc, ↓ws_brk, ↓ws_cnt, ↓ws_iteN, ↓ws_ite, ↓ws_for, ↓ws_whl, mtX_popS, eq_nils, ne_nils, pk_nil', pk_cons', Option.toList_some, Option.toList_none, bin_powI, at_ibI, slcT_to, slcL_to, List.take_succ_cons, List.take_zero, Int.reduceNeg, Int.zero_add, setX_m1, wp_setFld, setFS_new, fld_ins, wp_compF, wp_forF, wipe_nil, wipe_cons, restore_nil, restore_cons, wip_nil, wip_cons, wipS_emp, wipS_val, tok_none, rng1, rng2, rng3, rngL1, rngL2, tok_lst, tok_tup, forK_nx, forK_ct, forK_bk, forK_rt, Bool.and_self, Bool.and_true, Bool.true_and, Int.reduceToNat, Int.toNat_natCast, Int.reduceSub, Nat.reduceSub, nums_len, wp_ok, wp_bad, wp_bind, wp_ret, wp_some, wp_none, wp_ifS, wp_ifSm, wp_ifSb, Bool.false_eq_true, wp_if, br_true, br_false, br_dec, br_not, cbr_true, cbr_false, cbr_dec, cbr_not, wp_ofRC, wp_blk, cp_ok, endK_rt, endK_nx, orc_n, orc_s, look_zero, look_succ, has_zero, has_succ, set_zero, set_succ, getS_val, getS_ownT, getS_ownF, getS_owniT, getS_owniF, view_slt, view_ref, viewS_own, viewS_owni, viewO_lst, viewO_ins, view_int, view_bl, view_str, view_non, view_tup, view_lst, view_ins, go_nx, go_rt, go_bk, go_ct, bin_addI, bin_subI, bin_mulI, bin_fdivI, bin_modI, bin_addT, bin_addL, cmp_eqI, cmp_neI, cmp_ltI, cmp_leI, cmp_gtI, cmp_geI, idx_lst, idx_tup, at_0, at_1, at_2, at_3, at_4, at_5, at_m1, len_lst, len_tup, bi_int, bi_abs, bi_intb, bi_max2, bi_min2, bi_min3, bi_tupL, bi_tupT, bi_lstL, bi_lstT, seq_lst, seq_tup, lst_lst, bl_bl, int_int, isN_int, isN_bl, isN_non, isN_tup, isN_lst, isN_str, isN_ins, isB_int, isB_tup, isB_non, isB_str, isB_tt, isB_tf, isB_ft, isB_ff, lix_n, lix_t, lix_f, Int.cast_ofNat_Int, in_lst, in_tup, nin_lst, nin_tup, srt_lst, srt_tup, eq_tups, isT_int, isT_tup, isT_lst, isT_str, isT_bl, isT_non, isT_ins, isT_nil, putS_own, putR_lst, wp_putS, wp_putR, wp_setSub, setX_0, setX_1, setX_2, setX_3, wp_mtD, mtX_pop, mtX_app, Option.map_some, Option.map_none, Option.bind_some, Option.bind_none, List.map_cons, List.map_nil, List.append_nil, List.nil_append, List.cons_append, List.replicate_succ, List.replicate_zero, true_and, and_true, if_true, if_false, ne_eq, not_true_eq_false, not_false_eq_true, Bool.not_true, Bool.not_false, forall_const, forall_false, implies_true, false_implies, true_implies, reduceCtorEq, List.set_set, mulOk_l, mulOk_r, Int.reduceEq, Int.reduceLT, Int.reduceLE, na_lit, na_neg, Nat.reduceLT, Nat.reduceLeDiff, and_self, List.length_cons, List.length_nil, Tgs.len, Nat.reduceAdd, Nat.reduceEqDiff, eq_self, decide_true, decide_false, List.getElem?_cons_zero, List.getElem?_cons_succ, Bool.and_false, Bool.false_and, Bool.or_true, Bool.or_false, Bool.true_or, Bool.false_or, and_assoc, h1, h2, hx, hn', nums_snoc, last_app, g2, g3]
      exact ⟨n - 1, by omega, L, _, rfl, by omega, by omega, g3 _, g2 _⟩
    · have ll : L.length < lim := by unfold lim; omega
      have ll' : (nums L).length < lim := by rw [nums_len]; exact ll
      simp only [↓wp_int, ↓wp_str, ↓wp_bl, ↓wp_non, ↓wp_gint, ↓wp_gcls, ↓wp_var, ↓wp_tup, ↓wp_lst, ↓wp_bin, ↓wp_neg, ↓wp_cmp, ↓wp_isc, ↓wp_chain, ↓wp_and, ↓wp_or, ↓wp_and1, ↓wp_and2, ↓wp_or1, ↓wp_or2, ↓wp_not, ↓wp_ifx, ↓wp_idx, ↓wp_slc, ↓wp_rev, ↓wp_fld, ↓wp_call, ↓wp_callk, ↓wp_new, ↓wp_bi, ↓wp_lrg, ↓wp_isi, ↓wp_mt, ↓wp_comp, ↓wp_gal, ↓wp_evP0, ↓wp_evP1, ↓wp_nil, ↓wp_cons, ↓wp_nilB, ↓wp_consB, ↓wp_ts0, ↓wp_ts1, ↓wo_lst, ↓wo_comp, ↓wo_lrg, ↓wo_list, ↓wo_sorted, ↓wo_rev, ↓wo_add, ↓wo_mul, ↓wi_seq, ↓wi_rng, ↓wi_enum, ↓wt_nm, ↓wt_tup, ↓wt_nil, ↓wt_cons, ↓wt_sub, ↓wt_fld, ↓ws_nil, ↓ws_asg, ↓ws_aown, ↓ws_par, ↓ws_expr, ↓ws_ret, ↓ws_retn, ↓ws_pas, ↓ws_doc, ↓ws_brk, ↓ws_cnt, ↓ws_iteN, ↓ws_ite, ↓ws_for, ↓ws_whl, mtX_popS, eq_nils, ne_nils, pk_nil', pk_cons', Option.toList_some, Option.toList_none, bin_powI, at_ibI, slcT_to, slcL_to, List.take_succ_cons, List.take_zero, Int.reduceNeg, Int.zero_add, setX_m1, wp_setFld, setFS_new, fld_ins, wp_compF, wp_forF, wipe_nil, wipe_cons, restore_nil, restore_cons, wip_nil, wip_cons, wipS_emp, wipS_val, tok_none, rng1, rng2, rng3, rngL1, rngL2, tok_lst, tok_tup, forK_nx, forK_ct, forK_bk, forK_rt, Bool.and_self, Bool.and_true, Bool.true_and, Int.reduceToNat, Int.toNat_natCast, Int.reduceSub, Nat.reduceSub, nums_len, wp_ok, wp_bad, wp_bind, wp_ret, wp_some, wp_none, wp_ifS, wp_ifSm, wp_ifSb, Bool.false_eq_true, wp_if, br_true, br_false, br_dec, br_not, cbr_true, cbr_false, cbr_dec, cbr_not, wp_ofRC, wp_blk, cp_ok, endK_rt, endK_nx, orc_n, orc_s, look_zero, look_succ, has_zero, has_succ, set_zero, set_succ, getS_val, getS_ownT, getS_ownF, getS_owniT, getS_owniF, view_slt, view_ref, viewS_own, viewS_owni, viewO_lst, viewO_ins, view_int, view_bl, view_str, view_non, view_tup, view_lst, view_ins, go_nx, go_rt, go_bk, go_ct, bin_addI, bin_subI, bin_mulI, bin_fdivI, bin_modI, bin_addT, bin_addL, cmp_eqI, cmp_neI, cmp_ltI, cmp_leI, cmp_gtI, cmp_geI, idx_lst, idx_tup, at_0, at_1, at_2, at_3, at_4, at_5, at_m1, len_lst, len_tup, bi_int, bi_abs, bi_intb, bi_max2, bi_min2, bi_min3, bi_tupL, bi_tupT, bi_lstL, bi_lstT, seq_lst, seq_tup, lst_lst, bl_bl, int_int, isN_int, isN_bl, isN_non, isN_tup, isN_lst, isN_str, isN_ins, isB_int, isB_tup, isB_non, isB_str, isB_tt, isB_tf, isB_ft, isB_ff, lix_n, lix_t, lix_f, Int.cast_ofNat_Int, in_lst, in_tup, nin_lst, nin_tup, srt_lst, srt_tup, eq_tups, isT_int, isT_tup, isT_lst, isT_str, isT_bl, isT_non, isT_ins, isT_nil, putS_own, putR_lst, wp_putS, wp_putR, wp_setSub, setX_0, setX_1, setX_2, setX_3, wp_mtD, mtX_pop, mtX_app, Option.map_some, Option.map_none, Option.bind_some, Option.bind_none, List.map_cons, List.map_nil, List.append_nil, List.nil_append, List.cons_append, List.replicate_succ, List.replicate_zero, true_and, and_true, if_true, if_false, ne_eq, not_true_eq_false, not_false_eq_true, Bool.not_true, Bool.not_false, forall_const, forall_false, implies_true, false_implies, true_implies, reduceCtorEq, List.set_set, mulOk_l, mulOk_r, Int.reduceEq, Int.reduceLT, Int.reduceLE, na_lit, na_neg, Nat.reduceLT, Nat.reduceLeDiff, and_self, List.length_cons, List.length_nil, Tgs.len, Nat.reduceAdd, Nat.reduceEqDiff, eq_self, decide_true, decide_false, List.getElem?_cons_zero, List.getElem?_cons_succ, Bool.and_false, Bool.false_and, Bool.or_true, Bool.or_false, Bool.true_or, Bool.false_or, and_assoc, h1, h2, hx, hn', nums_snoc, last_app, x0, g2, g3, m0, m1, ll, ll']
      exact ⟨_, rfl, (fmod_pos hm).1, (fmod_pos hm).2, q, L ++ [x.fdiv m], _, g3 _, by rw [nums_snoc]; exact g2 _, by simp; omega⟩
theorem at_mem {ds : List D} {v : Int} (h0 : 0 ≤ v) (h1 : v < ds.length) : ∃ d, d ∈ ds ∧ atI ds v = some d := by
  have hl : v.toNat < ds.length := by omega
  exact ⟨ds[v.toNat], List.getElem_mem hl, by unfold atI; rw [if_pos h0, List.getElem?_eq_getElem hl]⟩
theorem pick {k r : Nat} {S : List Ob} {ds : List D} (hb : Heap' S r) (hm : 0 < ds.length) (hm2 : ds.length < 1000000000) (hk : 2 ≤ k) : CP (fun d S' => d ∈ ds ∧ Heap' S' r) .mk (callF T k f__law_pick none [.ref r, .lst ds] S) := by
  refine cp_run T__law_pick rfl (by omega) ?_
  simp only [↓wp_int, ↓wp_str, ↓wp_bl, ↓wp_non, ↓wp_gint, ↓wp_gcls, ↓wp_var, ↓wp_tup, ↓wp_lst, ↓wp_bin, ↓wp_neg, ↓wp_cmp, ↓wp_isc, ↓wp_chain, ↓wp_and, ↓wp_or, ↓wp_and1, ↓wp_and2, ↓wp_or1, ↓wp_or2, ↓wp_not, ↓wp_ifx, ↓wp_idx, ↓wp_slc, ↓wp_rev, ↓wp_fld, ↓wp_call, ↓wp_callk, ↓wp_new, ↓wp_bi, ↓wp_lrg, ↓wp_isi, ↓wp_mt, ↓wp_comp, ↓wp_gal, ↓wp_evP0, ↓wp_evP1, ↓wp_nil, ↓wp_cons, ↓wp_nilB, ↓wp_consB, ↓wp_ts0, ↓wp_ts1, ↓wo_lst, ↓wo_comp, ↓wo_lrg, ↓wo_list, ↓wo_sorted, ↓wo_rev, ↓wo_add, ↓wo_mul, ↓wi_seq, ↓wi_rng, ↓wi_enum, ↓wt_nm, ↓wt_tup, ↓wt_nil, ↓wt_cons, ↓wt_sub, ↓wt_fld, ↓ws_nil, ↓ws_asg, ↓ws_aown, ↓ws_par, ↓ws_expr, ↓ws_ret, ↓ws_retn, ↓ws_pas, ↓ws_doc, ↓ws_brk, ↓ws_cnt, ↓ws_iteN, ↓ws_ite, ↓ws_for, ↓ws_whl, mtX_popS, eq_nils, ne_nils, pk_nil', pk_cons', Option.toList_some, Option.toList_none, bin_powI, at_ibI, slcT_to, slcL_to, List.take_succ_cons, List.take_zero, Int.reduceNeg, Int.zero_add, setX_m1, wp_setFld, setFS_new, fld_ins, wp_compF, wp_forF, wipe_nil, wipe_cons, restore_nil, restore_cons, wip_nil, wip_cons, wipS_emp, wipS_val, tok_none, rng1, rng2, rng3, rngL1, rngL2, tok_lst, tok_tup, forK_nx, forK_ct, forK_bk, forK_rt, Bool.and_self, Bool.and_true, Bool.true_and, Int.reduceToNat, Int.toNat_natCast, Int.reduceSub, Nat.reduceSub, nums_len, wp_ok, wp_bad, wp_bind, wp_ret, wp_some, wp_none, wp_ifS, wp_ifSm, wp_ifSb, Bool.false_eq_true, wp_if, br_true, br_false, br_dec, br_not, cbr_true, cbr_false, cbr_dec, cbr_not, wp_ofRC, wp_blk, cp_ok, endK_rt, endK_nx, orc_n, orc_s, look_zero, look_succ, has_zero, has_succ, set_zero, set_succ, getS_val, getS_ownT, getS_ownF, getS_owniT, getS_owniF, view_slt, view_ref, viewS_own, viewS_owni, viewO_lst, viewO_ins, view_int, view_bl, view_str, view_non, view_tup, view_lst, view_ins, go_nx, go_rt, go_bk, go_ct, bin_addI, bin_subI, bin_mulI, bin_fdivI, bin_modI, bin_addT, bin_addL, cmp_eqI, cmp_neI, cmp_ltI, cmp_leI, cmp_gtI, cmp_geI, idx_lst, idx_tup, at_0, at_1, at_2, at_3, at_4, at_5, at_m1, len_lst, len_tup, bi_int, bi_abs, bi_intb, bi_max2, bi_min2, bi_min3, bi_tupL, bi_tupT, bi_lstL, bi_lstT, seq_lst, seq_tup, lst_lst, bl_bl, int_int, isN_int, isN_bl, isN_non, isN_tup, isN_lst, isN_str, isN_ins, isB_int, isB_tup, isB_non, isB_str, isB_tt, isB_tf, isB_ft, isB_ff, lix_n, lix_t, lix_f, Int.cast_ofNat_Int, in_lst, in_tup, nin_lst, nin_tup, srt_lst, srt_tup, eq_tups, isT_int, isT_tup, isT_lst, isT_str, isT_bl, isT_non, isT_ins, isT_nil, putS_own, putR_lst, wp_putS, wp_putR, wp_setSub, setX_0, setX_1, setX_2, setX_3, wp_mtD, mtX_pop, mtX_app, Option.map_some, Option.map_none, Option.bind_some, Option.bind_none, List.map_cons, List.map_nil, List.append_nil, List.nil_append, List.cons_append, List.replicate_succ, List.replicate_zero, true_and, and_true, if_true, if_false, ne_eq, not_true_eq_false, not_false_eq_true, Bool.not_true, Bool.not_false, forall_const, forall_false, implies_true, false_implies, true_implies, reduceCtorEq, List.set_set, mulOk_l, mulOk_r, Int.reduceEq, Int.reduceLT, Int.reduceLE, na_lit, na_neg, Nat.reduceLT, Nat.reduceLeDiff, and_self, List.length_cons, List.length_nil, Tgs.len, Nat.reduceAdd, Nat.reduceEqDiff, eq_self, decide_true, decide_false, List.getElem?_cons_zero, List.getElem?_cons_succ, Bool.and_false, Bool.false_and, Bool.or_true, Bool.or_false, Bool.true_or, Bool.false_or, and_assoc, fn__law_pick, b__law_pick]
  refine cp_mono (draw hb (by omega) (by omega) (by omega)) ?_
  rintro _ S' ⟨v, rfl, v0, v1, b⟩
  obtain ⟨d, hd, e⟩ := at_mem v0 v1
  simp only [↓wp_int, ↓wp_str, ↓wp_bl, ↓wp_non, ↓wp_gint, ↓wp_gcls, ↓wp_var, ↓wp_tup, ↓wp_lst, ↓wp_bin, ↓wp_neg, ↓wp_cmp, ↓wp_isc, ↓wp_chain, ↓wp_and, ↓wp_or, ↓wp_and1, ↓wp_and2, ↓wp_or1, ↓wp_or2, ↓wp_not, ↓wp_ifx, ↓wp_idx, ↓wp_slc, ↓wp_rev, ↓wp_fld, ↓wp_call, ↓wp_callk, ↓wp_new, ↓wp_bi, ↓wp_lrg, ↓wp_isi, ↓wp_mt, ↓wp_comp, ↓wp_gal, ↓wp_evP0, ↓wp_evP1, ↓wp_nil, ↓wp_cons, ↓wp_nilB, ↓wp_consB, ↓wp_ts0, ↓wp_ts1, ↓wo_lst, ↓wo_comp, ↓wo_lrg, ↓wo_list, ↓wo_sorted, ↓wo_rev, ↓wo_add, ↓wo_mul, ↓wi_seq, ↓wi_rng, ↓wi_enum, ↓wt_nm, ↓wt_tup, ↓wt_nil, ↓wt_cons, ↓wt_sub, ↓wt_fld, ↓ws_nil, ↓ws_asg, ↓ws_aown, ↓ws_par, ↓ws_expr, ↓ws_ret, ↓ws_retn, ↓ws_pas, ↓ws_doc, ↓ws_brk, ↓ws_cnt, ↓ws_iteN, ↓ws_ite, ↓ws_for, ↓ws_whl, mtX_popS, eq_nils, ne_nils, pk_nil', pk_cons', Option.toList_some, Option.toList_none, bin_powI, at_ibI, slcT_to, slcL_to, List.take_succ_cons, List.take_zero, Int.reduceNeg, Int.zero_add, setX_m1, wp_setFld, setFS_new, fld_ins, wp_compF, wp_forF, wipe_nil, wipe_cons, restore_nil, restore_cons, wip_nil, wip_cons, wipS_emp, wipS_val, tok_none, rng1, rng2, rng3, rngL1, rngL2, tok_lst, tok_tup, forK_nx, forK_ct, forK_bk, forK_rt, Bool.and_self, Bool.and_true, Bool.true_and, Int.reduceToNat, Int.toNat_natCast, Int.reduceSub, Nat.reduceSub, nums_len, wp_ok, wp_bad, wp_bind, wp_ret, wp_some, wp_none, wp_ifS, wp_ifSm, wp_ifSb, Bool.false_eq_true, wp_if, br_true, br_false, br_dec, br_not, cbr_true, cbr_false, cbr_dec, cbr_not, wp_ofRC, wp_blk, cp_ok, endK_rt, endK_nx, orc_n, orc_s, look_zero, look_succ, has_zero, has_succ, set_zero, set_succ, getS_val, getS_ownT, getS_ownF, getS_owniT, getS_owniF, view_slt, view_ref, viewS_own, viewS_owni, viewO_lst, viewO_ins, view_int, view_bl, view_str, view_non, view_tup, view_lst, view_ins, go_nx, go_rt, go_bk, go_ct, bin_addI, bin_subI, bin_mulI, bin_fdivI, bin_modI, bin_addT, bin_addL, cmp_eqI, cmp_neI, cmp_ltI, cmp_leI, cmp_gtI, cmp_geI, idx_lst, idx_tup, at_0, at_1, at_2, at_3, at_4, at_5, at_m1, len_lst, len_tup, bi_int, bi_abs, bi_intb, bi_max2, bi_min2, bi_min3, bi_tupL, bi_tupT, bi_lstL, bi_lstT, seq_lst, seq_tup, lst_lst, bl_bl, int_int, isN_int, isN_bl, isN_non, isN_tup, isN_lst, isN_str, isN_ins, isB_int, isB_tup, isB_non, isB_str, isB_tt, isB_tf, isB_ft, isB_ff, lix_n, lix_t, lix_f, Int.cast_ofNat_Int, in_lst, in_tup, nin_lst, nin_tup, srt_lst, srt_tup, eq_tups, isT_int, isT_tup, isT_lst, isT_str, isT_bl, isT_non, isT_ins, isT_nil, putS_own, putR_lst, wp_putS, wp_putR, wp_setSub, setX_0, setX_1, setX_2, setX_3, wp_mtD, mtX_pop, mtX_app, Option.map_some, Option.map_none, Option.bind_some, Option.bind_none, List.map_cons, List.map_nil, List.append_nil, List.nil_append, List.cons_append, List.replicate_succ, List.replicate_zero, true_and, and_true, if_true, if_false, ne_eq, not_true_eq_false, not_false_eq_true, Bool.not_true, Bool.not_false, forall_const, forall_false, implies_true, false_implies, true_implies, reduceCtorEq, List.set_set, mulOk_l, mulOk_r, Int.reduceEq, Int.reduceLT, Int.reduceLE, na_lit, na_neg, Nat.reduceLT, Nat.reduceLeDiff, and_self, List.length_cons, List.length_nil, Tgs.len, Nat.reduceAdd, Nat.reduceEqDiff, eq_self, decide_true, decide_false, List.getElem?_cons_zero, List.getElem?_cons_succ, Bool.and_false, Bool.false_and, Bool.or_true, Bool.or_false, Bool.true_or, Bool.false_or, and_assoc, e]
  exact ⟨hd, b⟩
theorem heap {k : Nat} {ns : List Int} {S : List Ob} (hk : 1 ≤ k) : CP (fun d S' => ∃ r, d = .ref r ∧ Heap' S' r) .mk (callF T k f__law_heap none [.lst (nums ns)] S) := by
  refine cp_run T__law_heap rfl hk ?_
  simp only [↓wp_int, ↓wp_str, ↓wp_bl, ↓wp_non, ↓wp_gint, ↓wp_gcls, ↓wp_var, ↓wp_tup, ↓wp_lst, ↓wp_bin, ↓wp_neg, ↓wp_cmp, ↓wp_isc, ↓wp_chain, ↓wp_and, ↓wp_or, ↓wp_and1, ↓wp_and2, ↓wp_or1, ↓wp_or2, ↓wp_not, ↓wp_ifx, ↓wp_idx, ↓wp_slc, ↓wp_rev, ↓wp_fld, ↓wp_call, ↓wp_callk, ↓wp_new, ↓wp_bi, ↓wp_lrg, ↓wp_isi, ↓wp_mt, ↓wp_comp, ↓wp_gal, ↓wp_evP0, ↓wp_evP1, ↓wp_nil, ↓wp_cons, ↓wp_nilB, ↓wp_consB, ↓wp_ts0, ↓wp_ts1, ↓wo_lst, ↓wo_comp, ↓wo_lrg, ↓wo_list, ↓wo_sorted, ↓wo_rev, ↓wo_add, ↓wo_mul, ↓wi_seq, ↓wi_rng, ↓wi_enum, ↓wt_nm, ↓wt_tup, ↓wt_nil, ↓wt_cons, ↓wt_sub, ↓wt_fld, ↓ws_nil, ↓ws_asg, ↓ws_aown, ↓ws_par, ↓ws_expr, ↓ws_ret, ↓ws_retn, ↓ws_pas, ↓ws_doc, ↓ws_brk, ↓ws_cnt, ↓ws_iteN, ↓ws_ite, ↓ws_for, ↓ws_whl, mtX_popS, eq_nils, ne_nils, pk_nil', pk_cons', Option.toList_some, Option.toList_none, bin_powI, at_ibI, slcT_to, slcL_to, List.take_succ_cons, List.take_zero, Int.reduceNeg, Int.zero_add, setX_m1, wp_setFld, setFS_new, fld_ins, wp_compF, wp_forF, wipe_nil, wipe_cons, restore_nil, restore_cons, wip_nil, wip_cons, wipS_emp, wipS_val, tok_none, rng1, rng2, rng3, rngL1, rngL2, tok_lst, tok_tup, forK_nx, forK_ct, forK_bk, forK_rt, Bool.and_self, Bool.and_true, Bool.true_and, Int.reduceToNat, Int.toNat_natCast, Int.reduceSub, Nat.reduceSub, nums_len, wp_ok, wp_bad, wp_bind, wp_ret, wp_some, wp_none, wp_ifS, wp_ifSm, wp_ifSb, Bool.false_eq_true, wp_if, br_true, br_false, br_dec, br_not, cbr_true, cbr_false, cbr_dec, cbr_not, wp_ofRC, wp_blk, cp_ok, endK_rt, endK_nx, orc_n, orc_s, look_zero, look_succ, has_zero, has_succ, set_zero, set_succ, getS_val, getS_ownT, getS_ownF, getS_owniT, getS_owniF, view_slt, view_ref, viewS_own, viewS_owni, viewO_lst, viewO_ins, view_int, view_bl, view_str, view_non, view_tup, view_lst, view_ins, go_nx, go_rt, go_bk, go_ct, bin_addI, bin_subI, bin_mulI, bin_fdivI, bin_modI, bin_addT, bin_addL, cmp_eqI, cmp_neI, cmp_ltI, cmp_leI, cmp_gtI, cmp_geI, idx_lst, idx_tup, at_0, at_1, at_2, at_3, at_4, at_5, at_m1, len_lst, len_tup, bi_int, bi_abs, bi_intb, bi_max2, bi_min2, bi_min3, bi_tupL, bi_tupT, bi_lstL, bi_lstT, seq_lst, seq_tup, lst_lst, bl_bl, int_int, isN_int, isN_bl, isN_non, isN_tup, isN_lst, isN_str, isN_ins, isB_int, isB_tup, isB_non, isB_str, isB_tt, isB_tf, isB_ft, isB_ff, lix_n, lix_t, lix_f, Int.cast_ofNat_Int, in_lst, in_tup, nin_lst, nin_tup, srt_lst, srt_tup, eq_tups, isT_int, isT_tup, isT_lst, isT_str, isT_bl, isT_non, isT_ins, isT_nil, putS_own, putR_lst, wp_putS, wp_putR, wp_setSub, setX_0, setX_1, setX_2, setX_3, wp_mtD, mtX_pop, mtX_app, Option.map_some, Option.map_none, Option.bind_some, Option.bind_none, List.map_cons, List.map_nil, List.append_nil, List.nil_append, List.cons_append, List.replicate_succ, List.replicate_zero, true_and, and_true, if_true, if_false, ne_eq, not_true_eq_false, not_false_eq_true, Bool.not_true, Bool.not_false, forall_const, forall_false, implies_true, false_implies, true_implies, reduceCtorEq, List.set_set, mulOk_l, mulOk_r, Int.reduceEq, Int.reduceLT, Int.reduceLE, na_lit, na_neg, Nat.reduceLT, Nat.reduceLeDiff, and_self, List.length_cons, List.length_nil, Tgs.len, Nat.reduceAdd, Nat.reduceEqDiff, eq_self, decide_true, decide_false, List.getElem?_cons_zero, List.getElem?_cons_succ, Bool.and_false, Bool.false_and, Bool.or_true, Bool.or_false, Bool.true_or, Bool.false_or, and_assoc, fn__law_heap, b__law_heap, take_nums]
  refine wp_compM (mapI fun x => 2 * (if x < 0 then -x else x) + (if decide (x < 0) = true then 1 else 0)) (fun w => ⟨[.val (.lst (nums ns)), w, .emp, .emp], S⟩) .emp (fun _ => rfl) (fun d hd w => ?_) fun w => ?_
  · obtain ⟨x, hx, rfl⟩ := mem_nums hd
    simp only [↓wp_int, ↓wp_str, ↓wp_bl, ↓wp_non, ↓wp_gint, ↓wp_gcls, ↓wp_var, ↓wp_tup, ↓wp_lst, ↓wp_bin, ↓wp_neg, ↓wp_cmp, ↓wp_isc, ↓wp_chain, ↓wp_and, ↓wp_or, ↓wp_and1, ↓wp_and2, ↓wp_or1, ↓wp_or2, ↓wp_not, ↓wp_ifx, ↓wp_idx, ↓wp_slc, ↓wp_rev, ↓wp_fld, ↓wp_call, ↓wp_callk, ↓wp_new, ↓wp_bi, ↓wp_lrg, ↓wp_isi, ↓wp_mt, ↓wp_comp, ↓wp_gal, ↓wp_evP0, ↓wp_evP1, ↓wp_nil, ↓wp_cons, ↓wp_nilB, ↓wp_consB, ↓wp_ts0, ↓wp_ts1, ↓wo_lst, ↓wo_comp, ↓wo_lrg, ↓wo_list, ↓wo_sorted, ↓wo_rev, ↓wo_add, ↓wo_mul, ↓wi_seq, ↓wi_rng, ↓wi_enum, ↓wt_nm, ↓wt_tup, ↓wt_nil, ↓wt_cons, ↓wt_sub, ↓wt_fld, ↓ws_nil, ↓ws_asg, ↓ws_aown, ↓ws_par, ↓ws_expr, ↓ws_ret, ↓ws_retn, ↓ws_pas, ↓ws_doc, ↓ws_brk, ↓ws_cnt, ↓ws_iteN, ↓ws_ite, ↓ws_for, ↓ws_whl, mtX_popS, eq_nils, ne_nils, pk_nil', pk_cons', Option.toList_some, Option.toList_none, bin_powI, at_ibI, slcT_to, slcL_to, List.take_succ_cons, List.take_zero, Int.reduceNeg, Int.zero_add, setX_m1, wp_setFld, setFS_new, fld_ins, wp_compF, wp_forF, wipe_nil, wipe_cons, restore_nil, restore_cons, wip_nil, wip_cons, wipS_emp, wipS_val, tok_none, rng1, rng2, rng3, rngL1, rngL2, tok_lst, tok_tup, forK_nx, forK_ct, forK_bk, forK_rt, Bool.and_self, Bool.and_true, Bool.true_and, Int.reduceToNat, Int.toNat_natCast, Int.reduceSub, Nat.reduceSub, nums_len, wp_ok, wp_bad, wp_bind, wp_ret, wp_some, wp_none, wp_ifS, wp_ifSm, wp_ifSb, Bool.false_eq_true, wp_if, br_true, br_false, br_dec, br_not, cbr_true, cbr_false, cbr_dec, cbr_not, wp_ofRC, wp_blk, cp_ok, endK_rt, endK_nx, orc_n, orc_s, look_zero, look_succ, has_zero, has_succ, set_zero, set_succ, getS_val, getS_ownT, getS_ownF, getS_owniT, getS_owniF, view_slt, view_ref, viewS_own, viewS_owni, viewO_lst, viewO_ins, view_int, view_bl, view_str, view_non, view_tup, view_lst, view_ins, go_nx, go_rt, go_bk, go_ct, bin_addI, bin_subI, bin_mulI, bin_fdivI, bin_modI, bin_addT, bin_addL, cmp_eqI, cmp_neI, cmp_ltI, cmp_leI, cmp_gtI, cmp_geI, idx_lst, idx_tup, at_0, at_1, at_2, at_3, at_4, at_5, at_m1, len_lst, len_tup, bi_int, bi_abs, bi_intb, bi_max2, bi_min2, bi_min3, bi_tupL, bi_tupT, bi_lstL, bi_lstT, seq_lst, seq_tup, lst_lst, bl_bl, int_int, isN_int, isN_bl, isN_non, isN_tup, isN_lst, isN_str, isN_ins, isB_int, isB_tup, isB_non, isB_str, isB_tt, isB_tf, isB_ft, isB_ff, lix_n, lix_t, lix_f, Int.cast_ofNat_Int, in_lst, in_tup, nin_lst, nin_tup, srt_lst, srt_tup, eq_tups, isT_int, isT_tup, isT_lst, isT_str, isT_bl, isT_non, isT_ins, isT_nil, putS_own, putR_lst, wp_putS, wp_putR, wp_setSub, setX_0, setX_1, setX_2, setX_3, wp_mtD, mtX_pop, mtX_app, Option.map_some, Option.map_none, Option.bind_some, Option.bind_none, List.map_cons, List.map_nil, List.append_nil, List.nil_append, List.cons_append, List.replicate_succ, List.replicate_zero, true_and, and_true, if_true, if_false, ne_eq, not_true_eq_false, not_false_eq_true, Bool.not_true, Bool.not_false, forall_const, forall_false, implies_true, false_implies, true_implies, reduceCtorEq, List.set_set, mulOk_l, mulOk_r, Int.reduceEq, Int.reduceLT, Int.reduceLE, na_lit, na_neg, Nat.reduceLT, Nat.reduceLeDiff, and_self, List.length_cons, List.length_nil, Tgs.len, Nat.reduceAdd, Nat.reduceEqDiff, eq_self, decide_true, decide_false, List.getElem?_cons_zero, List.getElem?_cons_succ, Bool.and_false, Bool.false_and, Bool.or_true, Bool.or_false, Bool.true_or, Bool.false_or, and_assoc]
    exact ⟨rfl, _, rfl⟩
  rw [mapI_nums]
  generalize hL : (ns.take 60).map (fun x : Int => 2 * (if x < 0 then -x else x) + (if decide (x < 0) = true then 1 else 0)) = L
  have l : L.length ≤ 60 := by
    rw [← hL, List.length_map, List.length_take]; omega
  simp only [↓wp_int, ↓wp_str, ↓wp_bl, ↓wp_non, ↓wp_gint, ↓wp_gcls, ↓wp_var, ↓wp_tup, ↓wp_lst, ↓wp_bin, ↓wp_neg, ↓wp_cmp, ↓wp_isc, ↓wp_chain, ↓wp_and, ↓wp_or, ↓wp_and1, ↓wp_and2, ↓wp_or1, ↓wp_or2, ↓wp_not, ↓wp_ifx, ↓wp_idx, ↓wp_slc, ↓wp_rev, ↓wp_fld, ↓wp_call, ↓wp_callk, ↓wp_new, ↓wp_bi, ↓wp_lrg, ↓wp_isi, ↓wp_mt, ↓wp_comp, ↓wp_gal, ↓wp_evP0, ↓wp_evP1, ↓wp_nil, ↓wp_cons, ↓wp_nilB, ↓wp_consB, ↓wp_ts0, ↓wp_ts1, ↓wo_lst, ↓wo_comp, ↓wo_lrg, ↓wo_list, ↓wo_sorted, ↓wo_rev, ↓wo_add, ↓wo_mul, ↓wi_seq, ↓wi_rng, ↓wi_enum, ↓wt_nm, ↓wt_tup, ↓wt_nil, ↓wt_cons, ↓wt_sub, ↓wt_fld, ↓ws_nil, ↓ws_asg, ↓ws_aown, ↓ws_par, ↓ws_expr, ↓ws_ret, ↓ws_retn, ↓ws_pas, ↓ws_doc, ↓ws_brk, ↓ws_cnt, ↓ws_iteN, ↓ws_ite, ↓ws_for, ↓ws_whl, mtX_popS, eq_nils, ne_nils, pk_nil', pk_cons', Option.toList_some, Option.toList_none, bin_powI, at_ibI, slcT_to, slcL_to, List.take_succ_cons, List.take_zero, Int.reduceNeg, Int.zero_add, setX_m1, wp_setFld, setFS_new, fld_ins, wp_compF, wp_forF, wipe_nil, wipe_cons, restore_nil, restore_cons, wip_nil, wip_cons, wipS_emp, wipS_val, tok_none, rng1, rng2, rng3, rngL1, rngL2, tok_lst, tok_tup, forK_nx, forK_ct, forK_bk, forK_rt, Bool.and_self, Bool.and_true, Bool.true_and, Int.reduceToNat, Int.toNat_natCast, Int.reduceSub, Nat.reduceSub, nums_len, wp_ok, wp_bad, wp_bind, wp_ret, wp_some, wp_none, wp_ifS, wp_ifSm, wp_ifSb, Bool.false_eq_true, wp_if, br_true, br_false, br_dec, br_not, cbr_true, cbr_false, cbr_dec, cbr_not, wp_ofRC, wp_blk, cp_ok, endK_rt, endK_nx, orc_n, orc_s, look_zero, look_succ, has_zero, has_succ, set_zero, set_succ, getS_val, getS_ownT, getS_ownF, getS_owniT, getS_owniF, view_slt, view_ref, viewS_own, viewS_owni, viewO_lst, viewO_ins, view_int, view_bl, view_str, view_non, view_tup, view_lst, view_ins, go_nx, go_rt, go_bk, go_ct, bin_addI, bin_subI, bin_mulI, bin_fdivI, bin_modI, bin_addT, bin_addL, cmp_eqI, cmp_neI, cmp_ltI, cmp_leI, cmp_gtI, cmp_geI, idx_lst, idx_tup, at_0, at_1, at_2, at_3, at_4, at_5, at_m1, len_lst, len_tup, bi_int, bi_abs, bi_intb, bi_max2, bi_min2, bi_min3, bi_tupL, bi_tupT, bi_lstL, bi_lstT, seq_lst, seq_tup, lst_lst, bl_bl, int_int, isN_int, isN_bl, isN_non, isN_tup, isN_lst, isN_str, isN_ins, isB_int, isB_tup, isB_non, isB_str, isB_tt, isB_tf, isB_ft, isB_ff, lix_n, lix_t, lix_f, Int.cast_ofNat_Int, in_lst, in_tup, nin_lst, nin_tup, srt_lst, srt_tup, eq_tups, isT_int, isT_tup, isT_lst, isT_str, isT_bl, isT_non, isT_ins, isT_nil, putS_own, putR_lst, wp_putS, wp_putR, wp_setSub, setX_0, setX_1, setX_2, setX_3, wp_mtD, mtX_pop, mtX_app, Option.map_some, Option.map_none, Option.bind_some, Option.bind_none, List.map_cons, List.map_nil, List.append_nil, List.nil_append, List.cons_append, List.replicate_succ, List.replicate_zero, true_and, and_true, if_true, if_false, ne_eq, not_true_eq_false, not_false_eq_true, Bool.not_true, Bool.not_false, forall_const, forall_false, implies_true, false_implies, true_implies, reduceCtorEq, List.set_set, mulOk_l, mulOk_r, Int.reduceEq, Int.reduceLT, Int.reduceLE, na_lit, na_neg, Nat.reduceLT, Nat.reduceLeDiff, and_self, List.length_cons, List.length_nil, Tgs.len, Nat.reduceAdd, Nat.reduceEqDiff, eq_self, decide_true, decide_false, List.getElem?_cons_zero, List.getElem?_cons_succ, Bool.and_false, Bool.false_and, Bool.or_true, Bool.or_false, Bool.true_or, Bool.false_or, and_assoc]
  refine wp_forN (fun i s => ∃ w st, wipS w = true ∧ s = ⟨[.val (.lst (nums ns)), w, .val (.lst (nums L)), .val (.int st)], S⟩) ⟨_, _, rfl, rfl⟩ ?_ ?_
  · rintro i d s hd ⟨w, st, hw, rfl⟩
    obtain ⟨x, hx, rfl⟩ := mem_nums (List.mem_of_getElem? hd)
    refine ⟨rfl, ?_⟩
    simp only [↓wp_int, ↓wp_str, ↓wp_bl, ↓wp_non, ↓wp_gint, ↓wp_gcls, ↓wp_var, ↓wp_tup, ↓wp_lst, ↓wp_bin, ↓wp_neg, ↓wp_cmp, ↓wp_isc, ↓wp_chain, ↓wp_and, ↓wp_or, ↓wp_and1, ↓wp_and2, ↓wp_or1, ↓wp_or2, ↓wp_not, ↓wp_ifx, ↓wp_idx, ↓wp_slc, ↓wp_rev, ↓wp_fld, ↓wp_call, ↓wp_callk, ↓wp_new, ↓wp_bi, ↓wp_lrg, ↓wp_isi, ↓wp_mt, ↓wp_comp, ↓wp_gal, ↓wp_evP0, ↓wp_evP1, ↓wp_nil, ↓wp_cons, ↓wp_nilB, ↓wp_consB, ↓wp_ts0, ↓wp_ts1, ↓wo_lst, ↓wo_comp, ↓wo_lrg, ↓wo_list, ↓wo_sorted, ↓wo_rev, ↓wo_add, ↓wo_mul, ↓wi_seq, ↓wi_rng, ↓wi_enum, ↓wt_nm, ↓wt_tup, ↓wt_nil, ↓wt_cons, ↓wt_sub, ↓wt_fld, ↓ws_nil, ↓ws_asg, ↓ws_aown, ↓ws_par, ↓ws_expr, ↓ws_ret, ↓ws_retn, ↓ws_pas, ↓ws_doc, ↓ws_brk, ↓ws_cnt, ↓ws_iteN, ↓ws_ite, ↓ws_for, ↓ws_whl, mtX_popS, eq_nils, ne_nils, pk_nil', pk_cons', Option.toList_some, Option.toList_none, bin_powI, at_ibI, slcT_to, slcL_to, List.take_succ_cons, List.take_zero, Int.reduceNeg, Int.zero_add, setX_m1, wp_setFld, setFS_new, fld_ins, wp_compF, wp_forF, wipe_nil, wipe_cons, restore_nil, restore_cons, wip_nil, wip_cons, wipS_emp, wipS_val, tok_none, rng1, rng2, rng3, rngL1, rngL2, tok_lst, tok_tup, forK_nx, forK_ct, forK_bk, forK_rt, Bool.and_self, Bool.and_true, Bool.true_and, Int.reduceToNat, Int.toNat_natCast, Int.reduceSub, Nat.reduceSub, nums_len, wp_ok, wp_bad, wp_bind, wp_ret, wp_some, wp_none, wp_ifS, wp_ifSm, wp_ifSb, Bool.false_eq_true, wp_if, br_true, br_false, br_dec, br_not, cbr_true, cbr_false, cbr_dec, cbr_not, wp_ofRC, wp_blk, cp_ok, endK_rt, endK_nx, orc_n, orc_s, look_zero, look_succ, has_zero, has_succ, set_zero, set_succ, getS_val, getS_ownT, getS_ownF, getS_owniT, getS_owniF, view_slt, view_ref, viewS_own, viewS_owni, viewO_lst, viewO_ins, view_int, view_bl, view_str, view_non, view_tup, view_lst, view_ins, go_nx, go_rt, go_bk, go_ct, bin_addI, bin_subI, bin_mulI, bin_fdivI, bin_modI, bin_addT, bin_addL, cmp_eqI, cmp_neI, cmp_ltI, cmp_leI, cmp_gtI, cmp_geI, idx_lst, idx_tup, at_0, at_1, at_2, at_3, at_4, at_5, at_m1, len_lst, len_tup, bi_int, bi_abs, bi_intb, bi_max2, bi_min2, bi_min3, bi_tupL, bi_tupT, bi_lstL, bi_lstT, seq_lst, seq_tup, lst_lst, bl_bl, int_int, isN_int, isN_bl, isN_non, isN_tup, isN_lst, isN_str, isN_ins, isB_int, isB_tup, isB_non, isB_str, isB_tt, isB_tf, isB_ft, isB_ff, lix_n, lix_t, lix_f, Int.cast_ofNat_Int, in_lst, in_tup, nin_lst, nin_tup, srt_lst, srt_tup, eq_tups, isT_int, isT_tup, isT_lst, isT_str, isT_bl, isT_non, isT_ins, isT_nil, putS_own, putR_lst, wp_putS, wp_putR, wp_setSub, setX_0, setX_1, setX_2, setX_3, wp_mtD, mtX_pop, mtX_app, Option.map_some, Option.map_none, Option.bind_some, Option.bind_none, List.map_cons, List.map_nil, List.append_nil, List.nil_append, List.cons_append, List.replicate_succ, List.replicate_zero, true_and, and_true, if_true, if_false, ne_eq, not_true_eq_false, not_false_eq_true, Bool.not_true, Bool.not_false, forall_const, forall_false, implies_true, false_implies, true_implies, reduceCtorEq, List.set_set, mulOk_l, mulOk_r, Int.reduceEq, Int.reduceLT, Int.reduceLE, na_lit, na_neg, Nat.reduceLT, Nat.reduceLeDiff, and_self, List.length_cons, List.length_nil, Tgs.len, Nat.reduceAdd, Nat.reduceEqDiff, eq_self, decide_true, decide_false, List.getElem?_cons_zero, List.getElem?_cons_succ, Bool.and_false, Bool.false_and, Bool.or_true, Bool.or_false, Bool.true_or, Bool.false_or, and_assoc]
    exact ⟨_, _, rfl, rfl⟩
  · rintro s ⟨w, st, hw, rfl⟩
    refine ⟨rfl, ?_⟩
    simp only [↓wp_int, ↓wp_str, ↓wp_bl, ↓wp_non, ↓wp_gint, ↓wp_gcls, ↓wp_var, ↓wp_tup, ↓wp_lst, ↓wp_bin, ↓wp_neg, ↓wp_cmp, ↓wp_isc, ↓wp_chain, ↓wp_and, ↓wp_or, ↓wp_and1, ↓wp_and2, ↓wp_or1, ↓wp_or2, ↓wp_not, ↓wp_ifx, ↓wp_idx, ↓wp_slc, ↓wp_rev, ↓wp_fld, ↓wp_call, ↓wp_callk, ↓wp_new, ↓wp_bi, ↓wp_lrg, ↓wp_isi, ↓wp_mt, ↓wp_comp, ↓wp_gal, ↓wp_evP0, ↓wp_evP1, ↓wp_nil, ↓wp_cons, ↓wp_nilB, ↓wp_consB, ↓wp_ts0, ↓wp_ts1, ↓wo_lst, ↓wo_comp, ↓wo_lrg, ↓wo_list, ↓wo_sorted, ↓wo_rev, ↓wo_add, ↓wo_mul, ↓wi_seq, ↓wi_rng, ↓wi_enum, ↓wt_nm, ↓wt_tup, ↓wt_nil, ↓wt_cons, ↓wt_sub, ↓wt_fld, ↓ws_nil, ↓ws_asg, ↓ws_aown, ↓ws_par, ↓ws_expr, ↓ws_ret, ↓ws_retn, ↓ws_pas, ↓ws_doc, ↓ws_brk, ↓ws_cnt, ↓ws_iteN, ↓ws_ite, ↓ws_for, ↓ws_whl, mtX_popS, eq_nils, ne_nils, pk_nil', pk_cons', Option.toList_some, Option.toList_none, bin_powI, at_ibI, slcT_to, slcL_to, List.take_succ_cons, List.take_zero, Int.reduceNeg, Int.zero_add, setX_m1, wp_setFld, setFS_new, fld_ins, wp_compF, wp_forF, wipe_nil, wipe_cons, restore_nil, restore_cons, wip_nil, wip_cons, wipS_emp, wipS_val, tok_none, rng1, rng2, rng3, rngL1, rngL2, tok_lst, tok_tup, forK_nx, forK_ct, forK_bk, forK_rt, Bool.and_self, Bool.and_true, Bool.true_and, Int.reduceToNat, Int.toNat_natCast, Int.reduceSub, Nat.reduceSub, nums_len, wp_ok, wp_bad, wp_bind, wp_ret, wp_some, wp_none, wp_ifS, wp_ifSm, wp_ifSb, Bool.false_eq_true, wp_if, br_true, br_false, br_dec, br_not, cbr_true, cbr_false, cbr_dec, cbr_not, wp_ofRC, wp_blk, cp_ok, endK_rt, endK_nx, orc_n, orc_s, look_zero, look_succ, has_zero, has_succ, set_zero, set_succ, getS_val, getS_ownT, getS_ownF, getS_owniT, getS_owniF, view_slt, view_ref, viewS_own, viewS_owni, viewO_lst, viewO_ins, view_int, view_bl, view_str, view_non, view_tup, view_lst, view_ins, go_nx, go_rt, go_bk, go_ct, bin_addI, bin_subI, bin_mulI, bin_fdivI, bin_modI, bin_addT, bin_addL, cmp_eqI, cmp_neI, cmp_ltI, cmp_leI, cmp_gtI, cmp_geI, idx_lst, idx_tup, at_0, at_1, at_2, at_3, at_4, at_5, at_m1, len_lst, len_tup, bi_int, bi_abs, bi_intb, bi_max2, bi_min2, bi_min3, bi_tupL, bi_tupT, bi_lstL, bi_lstT, seq_lst, seq_tup, lst_lst, bl_bl, int_int, isN_int, isN_bl, isN_non, isN_tup, isN_lst, isN_str, isN_ins, isB_int, isB_tup, isB_non, isB_str, isB_tt, isB_tf, isB_ft, isB_ff, lix_n, lix_t, lix_f, Int.cast_ofNat_Int, in_lst, in_tup, nin_lst, nin_tup, srt_lst, srt_tup, eq_tups, isT_int, isT_tup, isT_lst, isT_str, isT_bl, isT_non, isT_ins, isT_nil, putS_own, putR_lst, wp_putS, wp_putR, wp_setSub, setX_0, setX_1, setX_2, setX_3, wp_mtD, mtX_pop, mtX_app, Option.map_some, Option.map_none, Option.bind_some, Option.bind_none, List.map_cons, List.map_nil, List.append_nil, List.nil_append, List.cons_append, List.replicate_succ, List.replicate_zero, true_and, and_true, if_true, if_false, ne_eq, not_true_eq_false, not_false_eq_true, Bool.not_true, Bool.not_false, forall_const, forall_false, implies_true, false_implies, true_implies, reduceCtorEq, List.set_set, mulOk_l, mulOk_r, Int.reduceEq, Int.reduceLT, Int.reduceLE, na_lit, na_neg, Nat.reduceLT, Nat.reduceLeDiff, and_self, List.length_cons, List.length_nil, Tgs.len, Nat.reduceAdd, Nat.reduceEqDiff, eq_self, decide_true, decide_false, List.getElem?_cons_zero, List.getElem?_cons_succ, Bool.and_false, Bool.false_and, Bool.or_true, Bool.or_false, Bool.true_or, Bool.false_or, and_assoc, hw]
    refine wp_compM (keep fun x => decide ((10 : Int) ^ 18 ≤ x)) (fun w => ⟨[.val (.lst (nums ns)), w, .val (.lst (nums L)), .val (.int st)], S⟩) .emp (fun _ => rfl) (fun d hd w => ?_) fun w => ?_
    · obtain ⟨x, hx, rfl⟩ := mem_nums hd
      simp only [↓wp_int, ↓wp_str, ↓wp_bl, ↓wp_non, ↓wp_gint, ↓wp_gcls, ↓wp_var, ↓wp_tup, ↓wp_lst, ↓wp_bin, ↓wp_neg, ↓wp_cmp, ↓wp_isc, ↓wp_chain, ↓wp_and, ↓wp_or, ↓wp_and1, ↓wp_and2, ↓wp_or1, ↓wp_or2, ↓wp_not, ↓wp_ifx, ↓wp_idx, ↓wp_slc, ↓wp_rev, ↓wp_fld, ↓wp_call, ↓wp_callk, ↓wp_new, ↓wp_bi, ↓wp_lrg, ↓wp_isi, ↓wp_mt, ↓wp_comp, ↓wp_gal, ↓wp_evP0, ↓wp_evP1, ↓wp_nil, ↓wp_cons, ↓wp_nilB, ↓wp_consB, ↓wp_ts0, ↓wp_ts1, ↓wo_lst, ↓wo_comp, ↓wo_lrg, ↓wo_list, ↓wo_sorted, ↓wo_rev, ↓wo_add, ↓wo_mul, ↓wi_seq, ↓wi_rng, ↓wi_enum, ↓wt_nm, ↓wt_tup, ↓wt_nil, ↓wt_cons, ↓wt_sub, ↓wt_fld, ↓ws_nil, ↓ws_asg, ↓ws_aown, ↓ws_par, ↓ws_expr, ↓ws_ret, ↓ws_retn, ↓ws_pas, ↓ws_doc, ↓ws_brk, ↓ws_cnt, ↓ws_iteN, ↓ws_ite, ↓ws_for, ↓ws_whl, mtX_popS, eq_nils, ne_nils, pk_nil', pk_cons', Option.toList_some, Option.toList_none, bin_powI, at_ibI, slcT_to, slcL_to, List.take_succ_cons, List.take_zero, Int.reduceNeg, Int.zero_add, setX_m1, wp_setFld, setFS_new, fld_ins, wp_compF, wp_forF, wipe_nil, wipe_cons, restore_nil, restore_cons, wip_nil, wip_cons, wipS_emp, wipS_val, tok_none, rng1, rng2, rng3, rngL1, rngL2, tok_lst, tok_tup, forK_nx, forK_ct, forK_bk, forK_rt, Bool.and_self, Bool.and_true, Bool.true_and, Int.reduceToNat, Int.toNat_natCast, Int.reduceSub, Nat.reduceSub, nums_len, wp_ok, wp_bad, wp_bind, wp_ret, wp_some, wp_none, wp_ifS, wp_ifSm, wp_ifSb, Bool.false_eq_true, wp_if, br_true, br_false, br_dec, br_not, cbr_true, cbr_false, cbr_dec, cbr_not, wp_ofRC, wp_blk, cp_ok, endK_rt, endK_nx, orc_n, orc_s, look_zero, look_succ, has_zero, has_succ, set_zero, set_succ, getS_val, getS_ownT, getS_ownF, getS_owniT, getS_owniF, view_slt, view_ref, viewS_own, viewS_owni, viewO_lst, viewO_ins, view_int, view_bl, view_str, view_non, view_tup, view_lst, view_ins, go_nx, go_rt, go_bk, go_ct, bin_addI, bin_subI, bin_mulI, bin_fdivI, bin_modI, bin_addT, bin_addL, cmp_eqI, cmp_neI, cmp_ltI, cmp_leI, cmp_gtI, cmp_geI, idx_lst, idx_tup, at_0, at_1, at_2, at_3, at_4, at_5, at_m1, len_lst, len_tup, bi_int, bi_abs, bi_intb, bi_max2, bi_min2, bi_min3, bi_tupL, bi_tupT, bi_lstL, bi_lstT, seq_lst, seq_tup, lst_lst, bl_bl, int_int, isN_int, isN_bl, isN_non, isN_tup, isN_lst, isN_str, isN_ins, isB_int, isB_tup, isB_non, isB_str, isB_tt, isB_tf, isB_ft, isB_ff, lix_n, lix_t, lix_f, Int.cast_ofNat_Int, in_lst, in_tup, nin_lst, nin_tup, srt_lst, srt_tup, eq_tups, isT_int, isT_tup, isT_lst, isT_str, isT_bl, isT_non, isT_ins, isT_nil, putS_own, putR_lst, wp_putS, wp_putR, wp_setSub, setX_0, setX_1, setX_2, setX_3, wp_mtD, mtX_pop, mtX_app, Option.map_some, Option.map_none, Option.bind_some, Option.bind_none, List.map_cons, List.map_nil, List.append_nil, List.nil_append, List.cons_append, List.replicate_succ, List.replicate_zero, true_and, and_true, if_true, if_false, ne_eq, not_true_eq_false, not_false_eq_true, Bool.not_true, Bool.not_false, forall_const, forall_false, implies_true, false_implies, true_implies, reduceCtorEq, List.set_set, mulOk_l, mulOk_r, Int.reduceEq, Int.reduceLT, Int.reduceLE, na_lit, na_neg, Nat.reduceLT, Nat.reduceLeDiff, and_self, List.length_cons, List.length_nil, Tgs.len, Nat.reduceAdd, Nat.reduceEqDiff, eq_self, decide_true, decide_false, List.getElem?_cons_zero, List.getElem?_cons_succ, Bool.and_false, Bool.false_and, Bool.or_true, Bool.or_false, Bool.true_or, Bool.false_or, and_assoc]
      exact ⟨fun h => ⟨keep_yes (decide_eq_true h), _, rfl⟩, fun h => ⟨keep_no (decide_eq_false h), _, rfl⟩⟩
    · rw [keep_nums]
      simp only [↓wp_int, ↓wp_str, ↓wp_bl, ↓wp_non, ↓wp_gint, ↓wp_gcls, ↓wp_var, ↓wp_tup, ↓wp_lst, ↓wp_bin, ↓wp_neg, ↓wp_cmp, ↓wp_isc, ↓wp_chain, ↓wp_and, ↓wp_or, ↓wp_and1, ↓wp_and2, ↓wp_or1, ↓wp_or2, ↓wp_not, ↓wp_ifx, ↓wp_idx, ↓wp_slc, ↓wp_rev, ↓wp_fld, ↓wp_call, ↓wp_callk, ↓wp_new, ↓wp_bi, ↓wp_lrg, ↓wp_isi, ↓wp_mt, ↓wp_comp, ↓wp_gal, ↓wp_evP0, ↓wp_evP1, ↓wp_nil, ↓wp_cons, ↓wp_nilB, ↓wp_consB, ↓wp_ts0, ↓wp_ts1, ↓wo_lst, ↓wo_comp, ↓wo_lrg, ↓wo_list, ↓wo_sorted, ↓wo_rev, ↓wo_add, ↓wo_mul, ↓wi_seq, ↓wi_rng, ↓wi_enum, ↓wt_nm, ↓wt_tup, ↓wt_nil, ↓wt_cons, ↓wt_sub, ↓wt_fld, ↓ws_nil, ↓ws_asg, ↓ws_aown, ↓ws_par, ↓ws_expr, ↓ws_ret, ↓ws_retn, ↓ws_pas, ↓ws_doc, ↓ws_brk, ↓ws_cnt, ↓ws_iteN, ↓ws_ite, ↓ws_for, ↓ws_whl, mtX_popS, eq_nils, ne_nils, pk_nil', pk_cons', Option.toList_some, Option.toList_none, bin_powI, at_ibI, slcT_to, slcL_to, List.take_succ_cons, List.take_zero, Int.reduceNeg, Int.zero_add, setX_m1, wp_setFld, setFS_new, fld_ins, wp_compF, wp_forF, wipe_nil, wipe_cons, restore_nil, restore_cons, wip_nil, wip_cons, wipS_emp, wipS_val, tok_none, rng1, rng2, rng3, rngL1, rngL2, tok_lst, tok_tup, forK_nx, forK_ct, forK_bk, forK_rt, Bool.and_self, Bool.and_true, Bool.true_and, Int.reduceToNat, Int.toNat_natCast, Int.reduceSub, Nat.reduceSub, nums_len, wp_ok, wp_bad, wp_bind, wp_ret, wp_some, wp_none, wp_ifS, wp_ifSm, wp_ifSb, Bool.false_eq_true, wp_if, br_true, br_false, br_dec, br_not, cbr_true, cbr_false, cbr_dec, cbr_not, wp_ofRC, wp_blk, cp_ok, endK_rt, endK_nx, orc_n, orc_s, look_zero, look_succ, has_zero, has_succ, set_zero, set_succ, getS_val, getS_ownT, getS_ownF, getS_owniT, getS_owniF, view_slt, view_ref, viewS_own, viewS_owni, viewO_lst, viewO_ins, view_int, view_bl, view_str, view_non, view_tup, view_lst, view_ins, go_nx, go_rt, go_bk, go_ct, bin_addI, bin_subI, bin_mulI, bin_fdivI, bin_modI, bin_addT, bin_addL, cmp_eqI, cmp_neI, cmp_ltI, cmp_leI, cmp_gtI, cmp_geI, idx_lst, idx_tup, at_0, at_1, at_2, at_3, at_4, at_5, at_m1, len_lst, len_tup, bi_int, bi_abs, bi_intb, bi_max2, bi_min2, bi_min3, bi_tupL, bi_tupT, bi_lstL, bi_lstT, seq_lst, seq_tup, lst_lst, bl_bl, int_int, isN_int, isN_bl, isN_non, isN_tup, isN_lst, isN_str, isN_ins, isB_int, isB_tup, isB_non, isB_str, isB_tt, isB_tf, isB_ft, isB_ff, lix_n, lix_t, lix_f, Int.cast_ofNat_Int, in_lst, in_tup, nin_lst, nin_tup, srt_lst, srt_tup, eq_tups, isT_int, isT_tup, isT_lst, isT_str, isT_bl, isT_non, isT_ins, isT_nil, putS_own, putR_lst, wp_putS, wp_putR, wp_setSub, setX_0, setX_1, setX_2, setX_3, wp_mtD, mtX_pop, mtX_app, Option.map_some, Option.map_none, Option.bind_some, Option.bind_none, List.map_cons, List.map_nil, List.append_nil, List.nil_append, List.cons_append, List.replicate_succ, List.replicate_zero, true_and, and_true, if_true, if_false, ne_eq, not_true_eq_false, not_false_eq_true, Bool.not_true, Bool.not_false, forall_const, forall_false, implies_true, false_implies, true_implies, reduceCtorEq, List.set_set, mulOk_l, mulOk_r, Int.reduceEq, Int.reduceLT, Int.reduceLE, na_lit, na_neg, Nat.reduceLT, Nat.reduceLeDiff, and_self, List.length_cons, List.length_nil, Tgs.len, Nat.reduceAdd, Nat.reduceEqDiff, eq_self, decide_true, decide_false, List.getElem?_cons_zero, List.getElem?_cons_succ, Bool.and_false, Bool.false_and, Bool.or_true, Bool.or_false, Bool.true_or, Bool.false_or, and_assoc, rev_nums]
      refine ⟨_, rfl, S.length, _, _, List.getElem?_concat_length, snoc2_get, ?_⟩
      rw [List.length_reverse]
      exact Nat.le_trans (List.length_filter_le _ _) l
/-! ### numbers -/
theorem is_integer {k : Nat} {n : Int} {S : List Ob} (hk : 1 ≤ k) : callF T k f_is_integer none [.int n] S = .ok (.bl true) S := by
  refine cp_get (t := .mk) (cp_run T_is_integer rfl hk ?_)
  simp only [↓wp_int, ↓wp_str, ↓wp_bl, ↓wp_non, ↓wp_gint, ↓wp_gcls, ↓wp_var, ↓wp_tup, ↓wp_lst, ↓wp_bin, ↓wp_neg, ↓wp_cmp, ↓wp_isc, ↓wp_chain, ↓wp_and, ↓wp_or, ↓wp_and1, ↓wp_and2, ↓wp_or1, ↓wp_or2, ↓wp_not, ↓wp_ifx, ↓wp_idx, ↓wp_slc, ↓wp_rev, ↓wp_fld, ↓wp_call, ↓wp_callk, ↓wp_new, ↓wp_bi, ↓wp_lrg, ↓wp_isi, ↓wp_mt, ↓wp_comp, ↓wp_gal, ↓wp_evP0, ↓wp_evP1, ↓wp_nil, ↓wp_cons, ↓wp_nilB, ↓wp_consB, ↓wp_ts0, ↓wp_ts1, ↓wo_lst, ↓wo_comp, ↓wo_lrg, ↓wo_list, ↓wo_sorted, ↓wo_rev, ↓wo_add, ↓wo_mul, ↓wi_seq, ↓wi_rng, ↓wi_enum, ↓wt_nm, ↓wt_tup, ↓wt_nil, ↓wt_cons, ↓wt_sub, ↓wt_fld, ↓ws_nil, ↓ws_asg, ↓ws_aown, ↓ws_par, ↓ws_expr, ↓ws_ret, ↓ws_retn, ↓ws_pas, ↓ws_doc, ↓ws_brk, ↓ws_cnt, ↓ws_iteN, ↓ws_ite, ↓ws_for, ↓ws_whl, mtX_popS, eq_nils, ne_nils, pk_nil', pk_cons', Option.toList_some, Option.toList_none, bin_powI, at_ibI, slcT_to, slcL_to, List.take_succ_cons, List.take_zero, Int.reduceNeg, Int.zero_add, setX_m1, wp_setFld, setFS_new, fld_ins, wp_compF, wp_forF, wipe_nil, wipe_cons, restore_nil, restore_cons, wip_nil, wip_cons, wipS_emp, wipS_val, tok_none, rng1, rng2, rng3, rngL1, rngL2, tok_lst, tok_tup, forK_nx, forK_ct, forK_bk, forK_rt, Bool.and_self, Bool.and_true, Bool.true_and, Int.reduceToNat, Int.toNat_natCast, Int.reduceSub, Nat.reduceSub, nums_len, wp_ok, wp_bad, wp_bind, wp_ret, wp_some, wp_none, wp_ifS, wp_ifSm, wp_ifSb, Bool.false_eq_true, wp_if, br_true, br_false, br_dec, br_not, cbr_true, cbr_false, cbr_dec, cbr_not, wp_ofRC, wp_blk, cp_ok, endK_rt, endK_nx, orc_n, orc_s, look_zero, look_succ, has_zero, has_succ, set_zero, set_succ, getS_val, getS_ownT, getS_ownF, getS_owniT, getS_owniF, view_slt, view_ref, viewS_own, viewS_owni, viewO_lst, viewO_ins, view_int, view_bl, view_str, view_non, view_tup, view_lst, view_ins, go_nx, go_rt, go_bk, go_ct, bin_addI, bin_subI, bin_mulI, bin_fdivI, bin_modI, bin_addT, bin_addL, cmp_eqI, cmp_neI, cmp_ltI, cmp_leI, cmp_gtI, cmp_geI, idx_lst, idx_tup, at_0, at_1, at_2, at_3, at_4, at_5, at_m1, len_lst, len_tup, bi_int, bi_abs, bi_intb, bi_max2, bi_min2, bi_min3, bi_tupL, bi_tupT, bi_lstL, bi_lstT, seq_lst, seq_tup, lst_lst, bl_bl, int_int, isN_int, isN_bl, isN_non, isN_tup, isN_lst, isN_str, isN_ins, isB_int, isB_tup, isB_non, isB_str, isB_tt, isB_tf, isB_ft, isB_ff, lix_n, lix_t, lix_f, Int.cast_ofNat_Int, in_lst, in_tup, nin_lst, nin_tup, srt_lst, srt_tup, eq_tups, isT_int, isT_tup, isT_lst, isT_str, isT_bl, isT_non, isT_ins, isT_nil, putS_own, putR_lst, wp_putS, wp_putR, wp_setSub, setX_0, setX_1, setX_2, setX_3, wp_mtD, mtX_pop, mtX_app, Option.map_some, Option.map_none, Option.bind_some, Option.bind_none, List.map_cons, List.map_nil, List.append_nil, List.nil_append, List.cons_append, List.replicate_succ, List.replicate_zero, true_and, and_true, if_true, if_false, ne_eq, not_true_eq_false, not_false_eq_true, Bool.not_true, Bool.not_false, forall_const, forall_false, implies_true, false_implies, true_implies, reduceCtorEq, List.set_set, mulOk_l, mulOk_r, Int.reduceEq, Int.reduceLT, Int.reduceLE, na_lit, na_neg, Nat.reduceLT, Nat.reduceLeDiff, and_self, List.length_cons, List.length_nil, Tgs.len, Nat.reduceAdd, Nat.reduceEqDiff, eq_self, decide_true, decide_false, List.getElem?_cons_zero, List.getElem?_cons_succ, Bool.and_false, Bool.false_and, Bool.or_true, Bool.or_false, Bool.true_or, Bool.false_or, and_assoc, fn_is_integer, b_is_integer]
theorem is_number {k : Nat} {n m : Int} {S : List Ob} (hk : 2 ≤ k) (h0 : 0 ≤ n) (h1 : n ≤ m) : callF T k f_is_number none [.int n, .int m] S = .ok (.bl true) S := by
  refine cp_get (t := .mk) (cp_run T_is_number rfl (by omega) ?_)
  simp only [↓wp_int, ↓wp_str, ↓wp_bl, ↓wp_non, ↓wp_gint, ↓wp_gcls, ↓wp_var, ↓wp_tup, ↓wp_lst, ↓wp_bin, ↓wp_neg, ↓wp_cmp, ↓wp_isc, ↓wp_chain, ↓wp_and, ↓wp_or, ↓wp_and1, ↓wp_and2, ↓wp_or1, ↓wp_or2, ↓wp_not, ↓wp_ifx, ↓wp_idx, ↓wp_slc, ↓wp_rev, ↓wp_fld, ↓wp_call, ↓wp_callk, ↓wp_new, ↓wp_bi, ↓wp_lrg, ↓wp_isi, ↓wp_mt, ↓wp_comp, ↓wp_gal, ↓wp_evP0, ↓wp_evP1, ↓wp_nil, ↓wp_cons, ↓wp_nilB, ↓wp_consB, ↓wp_ts0, ↓wp_ts1, ↓wo_lst, ↓wo_comp, ↓wo_lrg, ↓wo_list, ↓wo_sorted, ↓wo_rev, ↓wo_add, ↓wo_mul, ↓wi_seq, ↓wi_rng, ↓wi_enum, ↓wt_nm, ↓wt_tup, ↓wt_nil, ↓wt_cons, ↓wt_sub, ↓wt_fld, ↓ws_nil, ↓ws_asg, ↓ws_aown, ↓ws_par, ↓ws_expr, ↓ws_ret, ↓ws_retn, ↓ws_pas, ↓ws_doc, ↓ws_brk, ↓ws_cnt, ↓ws_iteN, ↓ws_ite, ↓ws_for, ↓ws_whl, mtX_popS, eq_nils, ne_nils, pk_nil', pk_cons', Option.toList_some, Option.toList_none, bin_powI, at_ibI, slcT_to, slcL_to, List.take_succ_cons, List.take_zero, Int.reduceNeg, Int.zero_add, setX_m1, wp_setFld, setFS_new, fld_ins, wp_compF, wp_forF, wipe_nil, wipe_cons, restore_nil, restore_cons, wip_nil, wip_cons, wipS_emp, wipS_val, tok_none, rng1, rng2, rng3, rngL1, rngL2, tok_lst, tok_tup, forK_nx, forK_ct, forK_bk, forK_rt, Bool.and_self, Bool.and_true, Bool.true_and, Int.reduceToNat, Int.toNat_natCast, Int.reduceSub, Nat.reduceSub, nums_len, wp_ok, wp_bad, wp_bind, wp_ret, wp_some, wp_none, wp_ifS, wp_ifSm, wp_ifSb, Bool.false_eq_true, wp_if, br_true, br_false, br_dec, br_not, cbr_true, cbr_false, cbr_dec, cbr_not, wp_ofRC, wp_blk, cp_ok, endK_rt, endK_nx, orc_n, orc_s, look_zero, look_succ, has_zero, has_succ, set_zero, set_succ, getS_val, getS_ownT, getS_ownF, getS_owniT, getS_owniF, view_slt, view_ref, viewS_own, viewS_owni, viewO_lst, viewO_ins, view_int, view_bl, view_str, view_non, view_tup, view_lst, view_ins, go_nx, go_rt, go_bk, go_ct, bin_addI, bin_subI, bin_mulI, bin_fdivI, bin_modI, bin_addT, bin_addL, cmp_eqI, cmp_neI, cmp_ltI, cmp_leI, cmp_gtI, cmp_geI, idx_lst, idx_tup, at_0, at_1, at_2, at_3, at_4, at_5, at_m1, len_lst, len_tup, bi_int, bi_abs, bi_intb, bi_max2, bi_min2, bi_min3, bi_tupL, bi_tupT, bi_lstL, bi_lstT, seq_lst, seq_tup, lst_lst, bl_bl, int_int, isN_int, isN_bl, isN_non, isN_tup, isN_lst, isN_str, isN_ins, isB_int, isB_tup, isB_non, isB_str, isB_tt, isB_tf, isB_ft, isB_ff, lix_n, lix_t, lix_f, Int.cast_ofNat_Int, in_lst, in_tup, nin_lst, nin_tup, srt_lst, srt_tup, eq_tups, isT_int, isT_tup, isT_lst, isT_str, isT_bl, isT_non, isT_ins, isT_nil, putS_own, putR_lst, wp_putS, wp_putR, wp_setSub, setX_0, setX_1, setX_2, setX_3, wp_mtD, mtX_pop, mtX_app, Option.map_some, Option.map_none, Option.bind_some, Option.bind_none, List.map_cons, List.map_nil, List.append_nil, List.nil_append, List.cons_append, List.replicate_succ, List.replicate_zero, true_and, and_true, if_true, if_false, ne_eq, not_true_eq_false, not_false_eq_true, Bool.not_true, Bool.not_false, forall_const, forall_false, implies_true, false_implies, true_implies, reduceCtorEq, List.set_set, mulOk_l, mulOk_r, Int.reduceEq, Int.reduceLT, Int.reduceLE, na_lit, na_neg, Nat.reduceLT, Nat.reduceLeDiff, and_self, List.length_cons, List.length_nil, Tgs.len, Nat.reduceAdd, Nat.reduceEqDiff, eq_self, decide_true, decide_false, List.getElem?_cons_zero, List.getElem?_cons_succ, Bool.and_false, Bool.false_and, Bool.or_true, Bool.or_false, Bool.true_or, Bool.false_or, and_assoc, fn_is_number, b_is_number, is_integer (k := k - 1) (by omega), h0, h1]
theorem xk : fldIx T 0 1 = some 0 := by decide
theorem xf : fldIx T 0 2 = some 1 := by decide
theorem xd : fldIx T 0 5 = some 2 := by decide
theorem xw1 : fldIx T 0 0 = some 3 := by decide
theorem xw2 : fldIx T 0 4 = some 4 := by decide
theorem xg : fldIx T 0 3 = some 5 := by decide
/-- numbers within their bounds -/
structure Nums (k f d a b c : Int) : Prop where
  k1 : 1 ≤ k
  k2 : k ≤ 12
  f1 : 0 ≤ f
  f2 : f ≤ k
  d1 : 1 ≤ d
  d2 : d ≤ 200
  a1 : 1 ≤ a
  a2 : a ≤ k
  b1 : 1 ≤ b
  b2 : b ≤ k
  c1 : 1 ≤ c
  c2 : c ≤ k
def numD (k f d a b c : Int) : D := .ins 0 [.int k, .int f, .int d, .int a, .int b, .int c]
theorem mkNums {q : Nat} {k f d a b c : Int} {S : List Ob} (h : Nums k f d a b c) (hk : 3 ≤ q) {P : D → List Ob → Prop} {t : TagC P} (hP : P (numD k f d a b c) S) : CP P t (callF T q f_Numbers___init__ (some 0) [.int k, .int f, .int d, .int a, .int b, .int c] S) := by
  refine cp_init T_Numbers___init__ rfl (by omega) ?_
  obtain ⟨k1, k2, f1, f2, d1, d2, a1, a2, b1, b2, c1, c2⟩ := h
  have k0 : ¬ k = 0 := by omega
  have d0 : ¬ d = 0 := by omega
  have a0 : ¬ a = 0 := by omega
  have b0 : ¬ b = 0 := by omega
  have c0 : ¬ c = 0 := by omega
  simp only [↓wp_int, ↓wp_str, ↓wp_bl, ↓wp_non, ↓wp_gint, ↓wp_gcls, ↓wp_var, ↓wp_tup, ↓wp_lst, ↓wp_bin, ↓wp_neg, ↓wp_cmp, ↓wp_isc, ↓wp_chain, ↓wp_and, ↓wp_or, ↓wp_and1, ↓wp_and2, ↓wp_or1, ↓wp_or2, ↓wp_not, ↓wp_ifx, ↓wp_idx, ↓wp_slc, ↓wp_rev, ↓wp_fld, ↓wp_call, ↓wp_callk, ↓wp_new, ↓wp_bi, ↓wp_lrg, ↓wp_isi, ↓wp_mt, ↓wp_comp, ↓wp_gal, ↓wp_evP0, ↓wp_evP1, ↓wp_nil, ↓wp_cons, ↓wp_nilB, ↓wp_consB, ↓wp_ts0, ↓wp_ts1, ↓wo_lst, ↓wo_comp, ↓wo_lrg, ↓wo_list, ↓wo_sorted, ↓wo_rev, ↓wo_add, ↓wo_mul, ↓wi_seq, ↓wi_rng, ↓wi_enum, ↓wt_nm, ↓wt_tup, ↓wt_nil, ↓wt_cons, ↓wt_sub, ↓wt_fld, ↓ws_nil, ↓ws_asg, ↓ws_aown, ↓ws_par, ↓ws_expr, ↓ws_ret, ↓ws_retn, ↓ws_pas, ↓ws_doc, ↓ws_brk, ↓ws_cnt, ↓ws_iteN, ↓ws_ite, ↓ws_for, ↓ws_whl, mtX_popS, eq_nils, ne_nils, pk_nil', pk_cons', Option.toList_some, Option.toList_none, bin_powI, at_ibI, slcT_to, slcL_to, List.take_succ_cons, List.take_zero, Int.reduceNeg, Int.zero_add, setX_m1, wp_setFld, setFS_new, fld_ins, wp_compF, wp_forF, wipe_nil, wipe_cons, restore_nil, restore_cons, wip_nil, wip_cons, wipS_emp, wipS_val, tok_none, rng1, rng2, rng3, rngL1, rngL2, tok_lst, tok_tup, forK_nx, forK_ct, forK_bk, forK_rt, Bool.and_self, Bool.and_true, Bool.true_and, Int.reduceToNat, Int.toNat_natCast, Int.reduceSub, Nat.reduceSub, nums_len, wp_ok, wp_bad, wp_bind, wp_ret, wp_some, wp_none, wp_ifS, wp_ifSm, wp_ifSb, Bool.false_eq_true, wp_if, br_true, br_false, br_dec, br_not, cbr_true, cbr_false, cbr_dec, cbr_not, wp_ofRC, wp_blk, cp_ok, endK_rt, endK_nx, orc_n, orc_s, look_zero, look_succ, has_zero, has_succ, set_zero, set_succ, getS_val, getS_ownT, getS_ownF, getS_owniT, getS_owniF, view_slt, view_ref, viewS_own, viewS_owni, viewO_lst, viewO_ins, view_int, view_bl, view_str, view_non, view_tup, view_lst, view_ins, go_nx, go_rt, go_bk, go_ct, bin_addI, bin_subI, bin_mulI, bin_fdivI, bin_modI, bin_addT, bin_addL, cmp_eqI, cmp_neI, cmp_ltI, cmp_leI, cmp_gtI, cmp_geI, idx_lst, idx_tup, at_0, at_1, at_2, at_3, at_4, at_5, at_m1, len_lst, len_tup, bi_int, bi_abs, bi_intb, bi_max2, bi_min2, bi_min3, bi_tupL, bi_tupT, bi_lstL, bi_lstT, seq_lst, seq_tup, lst_lst, bl_bl, int_int, isN_int, isN_bl, isN_non, isN_tup, isN_lst, isN_str, isN_ins, isB_int, isB_tup, isB_non, isB_str, isB_tt, isB_tf, isB_ft, isB_ff, lix_n, lix_t, lix_f, Int.cast_ofNat_Int, in_lst, in_tup, nin_lst, nin_tup, srt_lst, srt_tup, eq_tups, isT_int, isT_tup, isT_lst, isT_str, isT_bl, isT_non, isT_ins, isT_nil, putS_own, putR_lst, wp_putS, wp_putR, wp_setSub, setX_0, setX_1, setX_2, setX_3, wp_mtD, mtX_pop, mtX_app, Option.map_some, Option.map_none, Option.bind_some, Option.bind_none, List.map_cons, List.map_nil, List.append_nil, List.nil_append, List.cons_append, List.replicate_succ, List.replicate_zero, true_and, and_true, if_true, if_false, ne_eq, not_true_eq_false, not_false_eq_true, Bool.not_true, Bool.not_false, forall_const, forall_false, implies_true, false_implies, true_implies, reduceCtorEq, List.set_set, mulOk_l, mulOk_r, Int.reduceEq, Int.reduceLT, Int.reduceLE, na_lit, na_neg, Nat.reduceLT, Nat.reduceLeDiff, and_self, List.length_cons, List.length_nil, Tgs.len, Nat.reduceAdd, Nat.reduceEqDiff, eq_self, decide_true, decide_false, List.getElem?_cons_zero, List.getElem?_cons_succ, Bool.and_false, Bool.false_and, Bool.or_true, Bool.or_false, Bool.true_or, Bool.false_or, and_assoc, fn_Numbers___init__, b_Numbers___init__, k0, d0, a0, b0, c0, numbered3, wp_for_cons, wp_for_nil, xk, xf, xd, xw1, xw2, xg, endI_nx, is_number (k := q - 1) (n := k) (m := 12) (by omega) (by omega) (by omega), is_number (k := q - 1) (n := f) (m := k) (by omega) (by omega) (by omega), is_number (k := q - 1) (n := d) (m := 200) (by omega) (by omega) (by omega), is_number (k := q - 1) (n := a) (m := k) (by omega) (by omega) (by omega), is_number (k := q - 1) (n := b) (m := k) (by omega) (by omega) (by omega), is_number (k := q - 1) (n := c) (m := k) (by omega) (by omega) (by omega)]
  exact hP
end K33

namespace K33
open PySem Dn
theorem near_slack {q : Nat} {k f d a b c s : Int} {S : List Ob} (hk : 1 ≤ q) : callF T q f_near_slack none [numD k f d a b c, .int s] S = .ok (.int (2 * a - k - s - f)) S := by
  refine cp_get (t := .mk) (cp_run T_near_slack rfl hk ?_)
  simp only [↓wp_int, ↓wp_str, ↓wp_bl, ↓wp_non, ↓wp_gint, ↓wp_gcls, ↓wp_var, ↓wp_tup, ↓wp_lst, ↓wp_bin, ↓wp_neg, ↓wp_cmp, ↓wp_isc, ↓wp_chain, ↓wp_and, ↓wp_or, ↓wp_and1, ↓wp_and2, ↓wp_or1, ↓wp_or2, ↓wp_not, ↓wp_ifx, ↓wp_idx, ↓wp_slc, ↓wp_rev, ↓wp_fld, ↓wp_call, ↓wp_callk, ↓wp_new, ↓wp_bi, ↓wp_lrg, ↓wp_isi, ↓wp_mt, ↓wp_comp, ↓wp_gal, ↓wp_evP0, ↓wp_evP1, ↓wp_nil, ↓wp_cons, ↓wp_nilB, ↓wp_consB, ↓wp_ts0, ↓wp_ts1, ↓wo_lst, ↓wo_comp, ↓wo_lrg, ↓wo_list, ↓wo_sorted, ↓wo_rev, ↓wo_add, ↓wo_mul, ↓wi_seq, ↓wi_rng, ↓wi_enum, ↓wt_nm, ↓wt_tup, ↓wt_nil, ↓wt_cons, ↓wt_sub, ↓wt_fld, ↓ws_nil, ↓ws_asg, ↓ws_aown, ↓ws_par, ↓ws_expr, ↓ws_ret, ↓ws_retn, ↓ws_pas, ↓ws_doc, ↓ws_brk, ↓ws_cnt, ↓ws_iteN, ↓ws_ite, ↓ws_for, ↓ws_whl, mtX_popS, eq_nils, ne_nils, pk_nil', pk_cons', Option.toList_some, Option.toList_none, bin_powI, at_ibI, slcT_to, slcL_to, List.take_succ_cons, List.take_zero, Int.reduceNeg, Int.zero_add, setX_m1, wp_setFld, setFS_new, fld_ins, wp_compF, wp_forF, wipe_nil, wipe_cons, restore_nil, restore_cons, wip_nil, wip_cons, wipS_emp, wipS_val, tok_none, rng1, rng2, rng3, rngL1, rngL2, tok_lst, tok_tup, forK_nx, forK_ct, forK_bk, forK_rt, Bool.and_self, Bool.and_true, Bool.true_and, Int.reduceToNat, Int.toNat_natCast, Int.reduceSub, Nat.reduceSub, nums_len, wp_ok, wp_bad, wp_bind, wp_ret, wp_some, wp_none, wp_ifS, wp_ifSm, wp_ifSb, Bool.false_eq_true, wp_if, br_true, br_false, br_dec, br_not, cbr_true, cbr_false, cbr_dec, cbr_not, wp_ofRC, wp_blk, cp_ok, endK_rt, endK_nx, orc_n, orc_s, look_zero, look_succ, has_zero, has_succ, set_zero, set_succ, getS_val, getS_ownT, getS_ownF, getS_owniT, getS_owniF, view_slt, view_ref, viewS_own, viewS_owni, viewO_lst, viewO_ins, view_int, view_bl, view_str, view_non, view_tup, view_lst, view_ins, go_nx, go_rt, go_bk, go_ct, bin_addI, bin_subI, bin_mulI, bin_fdivI, bin_modI, bin_addT, bin_addL, cmp_eqI, cmp_neI, cmp_ltI, cmp_leI, cmp_gtI, cmp_geI, idx_lst, idx_tup, at_0, at_1, at_2, at_3, at_4, at_5, at_m1, len_lst, len_tup, bi_int, bi_abs, bi_intb, bi_max2, bi_min2, bi_min3, bi_tupL, bi_tupT, bi_lstL, bi_lstT, seq_lst, seq_tup, lst_lst, bl_bl, int_int, isN_int, isN_bl, isN_non, isN_tup, isN_lst, isN_str, isN_ins, isB_int, isB_tup, isB_non, isB_str, isB_tt, isB_tf, isB_ft, isB_ff, lix_n, lix_t, lix_f, Int.cast_ofNat_Int, in_lst, in_tup, nin_lst, nin_tup, srt_lst, srt_tup, eq_tups, isT_int, isT_tup, isT_lst, isT_str, isT_bl, isT_non, isT_ins, isT_nil, putS_own, putR_lst, wp_putS, wp_putR, wp_setSub, setX_0, setX_1, setX_2, setX_3, wp_mtD, mtX_pop, mtX_app, Option.map_some, Option.map_none, Option.bind_some, Option.bind_none, List.map_cons, List.map_nil, List.append_nil, List.nil_append, List.cons_append, List.replicate_succ, List.replicate_zero, true_and, and_true, if_true, if_false, ne_eq, not_true_eq_false, not_false_eq_true, Bool.not_true, Bool.not_false, forall_const, forall_false, implies_true, false_implies, true_implies, reduceCtorEq, List.set_set, mulOk_l, mulOk_r, Int.reduceEq, Int.reduceLT, Int.reduceLE, na_lit, na_neg, Nat.reduceLT, Nat.reduceLeDiff, and_self, List.length_cons, List.length_nil, Tgs.len, Nat.reduceAdd, Nat.reduceEqDiff, eq_self, decide_true, decide_false, List.getElem?_cons_zero, List.getElem?_cons_succ, Bool.and_false, Bool.false_and, Bool.or_true, Bool.or_false, Bool.true_or, Bool.false_or, and_assoc, numD, fn_near_slack, b_near_slack, xk, xf, xw1]
theorem far_slack {q : Nat} {k f d a b c s : Int} {S : List Ob} (hk : 1 ≤ q) : callF T q f_far_slack none [numD k f d a b c, .int s] S = .ok (.int (c + b - k - s - f)) S := by
  refine cp_get (t := .mk) (cp_run T_far_slack rfl hk ?_)
  simp only [↓wp_int, ↓wp_str, ↓wp_bl, ↓wp_non, ↓wp_gint, ↓wp_gcls, ↓wp_var, ↓wp_tup, ↓wp_lst, ↓wp_bin, ↓wp_neg, ↓wp_cmp, ↓wp_isc, ↓wp_chain, ↓wp_and, ↓wp_or, ↓wp_and1, ↓wp_and2, ↓wp_or1, ↓wp_or2, ↓wp_not, ↓wp_ifx, ↓wp_idx, ↓wp_slc, ↓wp_rev, ↓wp_fld, ↓wp_call, ↓wp_callk, ↓wp_new, ↓wp_bi, ↓wp_lrg, ↓wp_isi, ↓wp_mt, ↓wp_comp, ↓wp_gal, ↓wp_evP0, ↓wp_evP1, ↓wp_nil, ↓wp_cons, ↓wp_nilB, ↓wp_consB, ↓wp_ts0, ↓wp_ts1, ↓wo_lst, ↓wo_comp, ↓wo_lrg, ↓wo_list, ↓wo_sorted, ↓wo_rev, ↓wo_add, ↓wo_mul, ↓wi_seq, ↓wi_rng, ↓wi_enum, ↓wt_nm, ↓wt_tup, ↓wt_nil, ↓wt_cons, ↓wt_sub, ↓wt_fld, ↓ws_nil, ↓ws_asg, ↓ws_aown, ↓ws_par, ↓ws_expr, ↓ws_ret, ↓ws_retn, ↓ws_pas, ↓ws_doc, ↓ws_brk, ↓ws_cnt, ↓ws_iteN, ↓ws_ite, ↓ws_for, ↓ws_whl, mtX_popS, eq_nils, ne_nils, pk_nil', pk_cons', Option.toList_some, Option.toList_none, bin_powI, at_ibI, slcT_to, slcL_to, List.take_succ_cons, List.take_zero, Int.reduceNeg, Int.zero_add, setX_m1, wp_setFld, setFS_new, fld_ins, wp_compF, wp_forF, wipe_nil, wipe_cons, restore_nil, restore_cons, wip_nil, wip_cons, wipS_emp, wipS_val, tok_none, rng1, rng2, rng3, rngL1, rngL2, tok_lst, tok_tup, forK_nx, forK_ct, forK_bk, forK_rt, Bool.and_self, Bool.and_true, Bool.true_and, Int.reduceToNat, Int.toNat_natCast, Int.reduceSub, Nat.reduceSub, nums_len, wp_ok, wp_bad, wp_bind, wp_ret, wp_some, wp_none, wp_ifS, wp_ifSm, wp_ifSb, Bool.false_eq_true, wp_if, br_true, br_false, br_dec, br_not, cbr_true, cbr_false, cbr_dec, cbr_not, wp_ofRC, wp_blk, cp_ok, endK_rt, endK_nx, orc_n, orc_s, look_zero, look_succ, has_zero, has_succ, set_zero, set_succ, getS_val, getS_ownT, getS_ownF, getS_owniT, getS_owniF, view_slt, view_ref, viewS_own, viewS_owni, viewO_lst, viewO_ins, view_int, view_bl, view_str, view_non, view_tup, view_lst, view_ins, go_nx, go_rt, go_bk, go_ct, bin_addI, bin_subI, bin_mulI, bin_fdivI, bin_modI, bin_addT, bin_addL, cmp_eqI, cmp_neI, cmp_ltI, cmp_leI, cmp_gtI, cmp_geI, idx_lst, idx_tup, at_0, at_1, at_2, at_3, at_4, at_5, at_m1, len_lst, len_tup, bi_int, bi_abs, bi_intb, bi_max2, bi_min2, bi_min3, bi_tupL, bi_tupT, bi_lstL, bi_lstT, seq_lst, seq_tup, lst_lst, bl_bl, int_int, isN_int, isN_bl, isN_non, isN_tup, isN_lst, isN_str, isN_ins, isB_int, isB_tup, isB_non, isB_str, isB_tt, isB_tf, isB_ft, isB_ff, lix_n, lix_t, lix_f, Int.cast_ofNat_Int, in_lst, in_tup, nin_lst, nin_tup, srt_lst, srt_tup, eq_tups, isT_int, isT_tup, isT_lst, isT_str, isT_bl, isT_non, isT_ins, isT_nil, putS_own, putR_lst, wp_putS, wp_putR, wp_setSub, setX_0, setX_1, setX_2, setX_3, wp_mtD, mtX_pop, mtX_app, Option.map_some, Option.map_none, Option.bind_some, Option.bind_none, List.map_cons, List.map_nil, List.append_nil, List.nil_append, List.cons_append, List.replicate_succ, List.replicate_zero, true_and, and_true, if_true, if_false, ne_eq, not_true_eq_false, not_false_eq_true, Bool.not_true, Bool.not_false, forall_const, forall_false, implies_true, false_implies, true_implies, reduceCtorEq, List.set_set, mulOk_l, mulOk_r, Int.reduceEq, Int.reduceLT, Int.reduceLE, na_lit, na_neg, Nat.reduceLT, Nat.reduceLeDiff, and_self, List.length_cons, List.length_nil, Tgs.len, Nat.reduceAdd, Nat.reduceEqDiff, eq_self, decide_true, decide_false, List.getElem?_cons_zero, List.getElem?_cons_succ, Bool.and_false, Bool.false_and, Bool.or_true, Bool.or_false, Bool.true_or, Bool.false_or, and_assoc, numD, fn_far_slack, b_far_slack, xk, xf, xw2, xg]
def kindS (k f a b c s : Int) : D := if 2 * a ≤ k + s + f then .int 1 else if 0 < s ∧ c + b ≤ k + s + f then .int 2 else .non
def apartS (k f a b c s : Int) : D := if 2 * a ≤ k + s + f then .int (max 0 (a + a - k - f)) else if 0 < s ∧ c + b ≤ k + s + f then .int (max 0 (a + max a b - k - f)) else .non
theorem kind_of {q : Nat} {k f d a b c s : Int} {S : List Ob} (hk : 2 ≤ q) : callF T q f_kind_of none [numD k f d a b c, .int s] S = .ok (kindS k f a b c s) S := by
  refine cp_get (t := .mk) (cp_run T_kind_of rfl (by omega) ?_)
  simp only [↓wp_int, ↓wp_str, ↓wp_bl, ↓wp_non, ↓wp_gint, ↓wp_gcls, ↓wp_var, ↓wp_tup, ↓wp_lst, ↓wp_bin, ↓wp_neg, ↓wp_cmp, ↓wp_isc, ↓wp_chain, ↓wp_and, ↓wp_or, ↓wp_and1, ↓wp_and2, ↓wp_or1, ↓wp_or2, ↓wp_not, ↓wp_ifx, ↓wp_idx, ↓wp_slc, ↓wp_rev, ↓wp_fld, ↓wp_call, ↓wp_callk, ↓wp_new, ↓wp_bi, ↓wp_lrg, ↓wp_isi, ↓wp_mt, ↓wp_comp, ↓wp_gal, ↓wp_evP0, ↓wp_evP1, ↓wp_nil, ↓wp_cons, ↓wp_nilB, ↓wp_consB, ↓wp_ts0, ↓wp_ts1, ↓wo_lst, ↓wo_comp, ↓wo_lrg, ↓wo_list, ↓wo_sorted, ↓wo_rev, ↓wo_add, ↓wo_mul, ↓wi_seq, ↓wi_rng, ↓wi_enum, ↓wt_nm, ↓wt_tup, ↓wt_nil, ↓wt_cons, ↓wt_sub, ↓wt_fld, ↓ws_nil, ↓ws_asg, ↓ws_aown, ↓ws_par, ↓ws_expr, ↓ws_ret, ↓ws_retn, ↓ws_pas, ↓ws_doc, ↓ws_brk, ↓ws_cnt, ↓ws_iteN, ↓ws_ite, ↓ws_for, ↓ws_whl, mtX_popS, eq_nils, ne_nils, pk_nil', pk_cons', Option.toList_some, Option.toList_none, bin_powI, at_ibI, slcT_to, slcL_to, List.take_succ_cons, List.take_zero, Int.reduceNeg, Int.zero_add, setX_m1, wp_setFld, setFS_new, fld_ins, wp_compF, wp_forF, wipe_nil, wipe_cons, restore_nil, restore_cons, wip_nil, wip_cons, wipS_emp, wipS_val, tok_none, rng1, rng2, rng3, rngL1, rngL2, tok_lst, tok_tup, forK_nx, forK_ct, forK_bk, forK_rt, Bool.and_self, Bool.and_true, Bool.true_and, Int.reduceToNat, Int.toNat_natCast, Int.reduceSub, Nat.reduceSub, nums_len, wp_ok, wp_bad, wp_bind, wp_ret, wp_some, wp_none, wp_ifS, wp_ifSm, wp_ifSb, Bool.false_eq_true, wp_if, br_true, br_false, br_dec, br_not, cbr_true, cbr_false, cbr_dec, cbr_not, wp_ofRC, wp_blk, cp_ok, endK_rt, endK_nx, orc_n, orc_s, look_zero, look_succ, has_zero, has_succ, set_zero, set_succ, getS_val, getS_ownT, getS_ownF, getS_owniT, getS_owniF, view_slt, view_ref, viewS_own, viewS_owni, viewO_lst, viewO_ins, view_int, view_bl, view_str, view_non, view_tup, view_lst, view_ins, go_nx, go_rt, go_bk, go_ct, bin_addI, bin_subI, bin_mulI, bin_fdivI, bin_modI, bin_addT, bin_addL, cmp_eqI, cmp_neI, cmp_ltI, cmp_leI, cmp_gtI, cmp_geI, idx_lst, idx_tup, at_0, at_1, at_2, at_3, at_4, at_5, at_m1, len_lst, len_tup, bi_int, bi_abs, bi_intb, bi_max2, bi_min2, bi_min3, bi_tupL, bi_tupT, bi_lstL, bi_lstT, seq_lst, seq_tup, lst_lst, bl_bl, int_int, isN_int, isN_bl, isN_non, isN_tup, isN_lst, isN_str, isN_ins, isB_int, isB_tup, isB_non, isB_str, isB_tt, isB_tf, isB_ft, isB_ff, lix_n, lix_t, lix_f, Int.cast_ofNat_Int, in_lst, in_tup, nin_lst, nin_tup, srt_lst, srt_tup, eq_tups, isT_int, isT_tup, isT_lst, isT_str, isT_bl, isT_non, isT_ins, isT_nil, putS_own, putR_lst, wp_putS, wp_putR, wp_setSub, setX_0, setX_1, setX_2, setX_3, wp_mtD, mtX_pop, mtX_app, Option.map_some, Option.map_none, Option.bind_some, Option.bind_none, List.map_cons, List.map_nil, List.append_nil, List.nil_append, List.cons_append, List.replicate_succ, List.replicate_zero, true_and, and_true, if_true, if_false, ne_eq, not_true_eq_false, not_false_eq_true, Bool.not_true, Bool.not_false, forall_const, forall_false, implies_true, false_implies, true_implies, reduceCtorEq, List.set_set, mulOk_l, mulOk_r, Int.reduceEq, Int.reduceLT, Int.reduceLE, na_lit, na_neg, Nat.reduceLT, Nat.reduceLeDiff, and_self, List.length_cons, List.length_nil, Tgs.len, Nat.reduceAdd, Nat.reduceEqDiff, eq_self, decide_true, decide_false, List.getElem?_cons_zero, List.getElem?_cons_succ, Bool.and_false, Bool.false_and, Bool.or_true, Bool.or_false, Bool.true_or, Bool.false_or, and_assoc, fn_kind_of, b_kind_of, near_slack (q := q - 1) (k := k) (f := f) (d := d) (a := a) (b := b) (c := c) (s := s) (by omega), far_slack (q := q - 1) (k := k) (f := f) (d := d) (a := a) (b := b) (c := c) (s := s) (by omega)]
  unfold kindS
  refine ⟨fun h => ?_, fun h => ⟨fun h2 => ⟨fun h3 => ?_, fun h3 => ?_⟩, fun h2 => ?_⟩⟩
  · rw [if_pos (by omega)]
  · rw [if_neg (by omega), if_pos (by omega)]
  · rw [if_neg (by omega), if_neg (by omega)]
  · rw [if_neg (by omega), if_neg (by omega)]
theorem law_kind {q : Nat} {k f d a b c s : Int} {S : List Ob} (hk : 1 ≤ q) : callF T q f__law_kind none [.tup [.int k, .int f, .int d, .int a, .int b, .int c], .int s] S = .ok (kindS k f a b c s) S := by
  refine cp_get (t := .mk) (cp_run T__law_kind rfl (by omega) ?_)
  simp only [↓wp_int, ↓wp_str, ↓wp_bl, ↓wp_non, ↓wp_gint, ↓wp_gcls, ↓wp_var, ↓wp_tup, ↓wp_lst, ↓wp_bin, ↓wp_neg, ↓wp_cmp, ↓wp_isc, ↓wp_chain, ↓wp_and, ↓wp_or, ↓wp_and1, ↓wp_and2, ↓wp_or1, ↓wp_or2, ↓wp_not, ↓wp_ifx, ↓wp_idx, ↓wp_slc, ↓wp_rev, ↓wp_fld, ↓wp_call, ↓wp_callk, ↓wp_new, ↓wp_bi, ↓wp_lrg, ↓wp_isi, ↓wp_mt, ↓wp_comp, ↓wp_gal, ↓wp_evP0, ↓wp_evP1, ↓wp_nil, ↓wp_cons, ↓wp_nilB, ↓wp_consB, ↓wp_ts0, ↓wp_ts1, ↓wo_lst, ↓wo_comp, ↓wo_lrg, ↓wo_list, ↓wo_sorted, ↓wo_rev, ↓wo_add, ↓wo_mul, ↓wi_seq, ↓wi_rng, ↓wi_enum, ↓wt_nm, ↓wt_tup, ↓wt_nil, ↓wt_cons, ↓wt_sub, ↓wt_fld, ↓ws_nil, ↓ws_asg, ↓ws_aown, ↓ws_par, ↓ws_expr, ↓ws_ret, ↓ws_retn, ↓ws_pas, ↓ws_doc, ↓ws_brk, ↓ws_cnt, ↓ws_iteN, ↓ws_ite, ↓ws_for, ↓ws_whl, mtX_popS, eq_nils, ne_nils, pk_nil', pk_cons', Option.toList_some, Option.toList_none, bin_powI, at_ibI, slcT_to, slcL_to, List.take_succ_cons, List.take_zero, Int.reduceNeg, Int.zero_add, setX_m1, wp_setFld, setFS_new, fld_ins, wp_compF, wp_forF, wipe_nil, wipe_cons, restore_nil, restore_cons, wip_nil, wip_cons, wipS_emp, wipS_val, tok_none, rng1, rng2, rng3, rngL1, rngL2, tok_lst, tok_tup, forK_nx, forK_ct, forK_bk, forK_rt, Bool.and_self, Bool.and_true, Bool.true_and, Int.reduceToNat, Int.toNat_natCast, Int.reduceSub, Nat.reduceSub, nums_len, wp_ok, wp_bad, wp_bind, wp_ret, wp_some, wp_none, wp_ifS, wp_ifSm, wp_ifSb, Bool.false_eq_true, wp_if, br_true, br_false, br_dec, br_not, cbr_true, cbr_false, cbr_dec, cbr_not, wp_ofRC, wp_blk, cp_ok, endK_rt, endK_nx, orc_n, orc_s, look_zero, look_succ, has_zero, has_succ, set_zero, set_succ, getS_val, getS_ownT, getS_ownF, getS_owniT, getS_owniF, view_slt, view_ref, viewS_own, viewS_owni, viewO_lst, viewO_ins, view_int, view_bl, view_str, view_non, view_tup, view_lst, view_ins, go_nx, go_rt, go_bk, go_ct, bin_addI, bin_subI, bin_mulI, bin_fdivI, bin_modI, bin_addT, bin_addL, cmp_eqI, cmp_neI, cmp_ltI, cmp_leI, cmp_gtI, cmp_geI, idx_lst, idx_tup, at_0, at_1, at_2, at_3, at_4, at_5, at_m1, len_lst, len_tup, bi_int, bi_abs, bi_intb, bi_max2, bi_min2, bi_min3, bi_tupL, bi_tupT, bi_lstL, bi_lstT, seq_lst, seq_tup, lst_lst, bl_bl, int_int, isN_int, isN_bl, isN_non, isN_tup, isN_lst, isN_str, isN_ins, isB_int, isB_tup, isB_non, isB_str, isB_tt, isB_tf, isB_ft, isB_ff, lix_n, lix_t, lix_f, Int.cast_ofNat_Int, in_lst, in_tup, nin_lst, nin_tup, srt_lst, srt_tup, eq_tups, isT_int, isT_tup, isT_lst, isT_str, isT_bl, isT_non, isT_ins, isT_nil, putS_own, putR_lst, wp_putS, wp_putR, wp_setSub, setX_0, setX_1, setX_2, setX_3, wp_mtD, mtX_pop, mtX_app, Option.map_some, Option.map_none, Option.bind_some, Option.bind_none, List.map_cons, List.map_nil, List.append_nil, List.nil_append, List.cons_append, List.replicate_succ, List.replicate_zero, true_and, and_true, if_true, if_false, ne_eq, not_true_eq_false, not_false_eq_true, Bool.not_true, Bool.not_false, forall_const, forall_false, implies_true, false_implies, true_implies, reduceCtorEq, List.set_set, mulOk_l, mulOk_r, Int.reduceEq, Int.reduceLT, Int.reduceLE, na_lit, na_neg, Nat.reduceLT, Nat.reduceLeDiff, and_self, List.length_cons, List.length_nil, Tgs.len, Nat.reduceAdd, Nat.reduceEqDiff, eq_self, decide_true, decide_false, List.getElem?_cons_zero, List.getElem?_cons_succ, Bool.and_false, Bool.false_and, Bool.or_true, Bool.or_false, Bool.true_or, Bool.false_or, and_assoc, fn__law_kind, b__law_kind]
  unfold kindS
  refine ⟨fun h => ?_, fun h => ⟨fun h2 => ⟨fun h3 => ?_, fun h3 => ?_⟩, fun h2 => ?_⟩⟩
  · rw [if_pos (by omega)]
  · rw [if_neg (by omega), if_pos (by omega)]
  · rw [if_neg (by omega), if_neg (by omega)]
  · rw [if_neg (by omega), if_neg (by omega)]
theorem kind_cases (k f a b c s : Int) : (kindS k f a b c s = .int 1 ∧ apartS k f a b c s = .int (max 0 (a + a - k - f))) ∨ (kindS k f a b c s = .int 2 ∧ apartS k f a b c s = .int (max 0 (a + max a b - k - f))) ∨ (kindS k f a b c s = .non ∧ apartS k f a b c s = .non) := by
  unfold kindS apartS
  by_cases h1 : 2 * a ≤ k + s + f
  · rw [if_pos h1, if_pos h1]; exact .inl ⟨rfl, rfl⟩
  · rw [if_neg h1, if_neg h1]
    by_cases h2 : 0 < s ∧ c + b ≤ k + s + f
    · rw [if_pos h2, if_pos h2]; exact .inr (.inl ⟨rfl, rfl⟩)
    · rw [if_neg h2, if_neg h2]; exact .inr (.inr ⟨rfl, rfl⟩)
theorem least_apart {q : Nat} {k f d a b c s : Int} {S : List Ob} (hk : 3 ≤ q) : callF T q f_least_apart none [numD k f d a b c, .int s] S = .ok (apartS k f a b c s) S := by
  refine cp_get (t := .mk) (cp_run T_least_apart rfl (by omega) ?_)
  have e := kind_of (q := q - 1) (k := k) (f := f) (d := d) (a := a) (b := b) (c := c) (s := s) (S := S) (by omega)
  rcases kind_cases k f a b c s with ⟨h1, h2⟩ | ⟨h1, h2⟩ | ⟨h1, h2⟩ <;> rw [h1] at e <;> rw [h2] <;> unfold numD at *
  · simp only [↓wp_int, ↓wp_str, ↓wp_bl, ↓wp_non, ↓wp_gint, ↓wp_gcls, ↓wp_var, ↓wp_tup, ↓wp_lst, ↓wp_bin, ↓wp_neg, ↓wp_cmp, ↓wp_isc, ↓wp_chain, ↓wp_and, ↓wp_or, ↓wp_and1, ↓wp_and2, ↓wp_or1, ↓wp_or2, ↓wp_not, ↓wp_ifx, ↓wp_idx, ↓wp_slc, ↓wp_rev, ↓wp_fld, ↓wp_call, ↓wp_callk, ↓wp_new, ↓wp_bi, ↓wp_lrg, ↓wp_isi, ↓wp_mt, ↓wp_comp, ↓wp_gal, ↓wp_evP0, ↓wp_evP1, ↓wp_nil, ↓wp_cons, ↓wp_nilB, ↓wp_consB, ↓wp_ts0, ↓wp_ts1, ↓wo_lst, ↓wo_comp, ↓wo_lrg, ↓wo_list, ↓wo_sorted, ↓wo_rev, ↓wo_add, ↓wo_mul, ↓wi_seq, ↓wi_rng, ↓wi_enum, ↓wt_nm, ↓wt_tup, ↓wt_nil, ↓wt_cons, ↓wt_sub, ↓wt_fld, ↓ws_nil, ↓ws_asg, ↓ws_aown, ↓ws_par, ↓ws_expr, ↓ws_ret, ↓ws_retn, ↓ws_pas, ↓ws_doc, ↓ws_brk, ↓ws_cnt, ↓ws_iteN, ↓ws_ite, ↓ws_for, ↓ws_whl, mtX_popS, eq_nils, ne_nils, pk_nil', pk_cons', Option.toList_some, Option.toList_none, bin_powI, at_ibI, slcT_to, slcL_to, List.take_succ_cons, List.take_zero, Int.reduceNeg, Int.zero_add, setX_m1, wp_setFld, setFS_new, fld_ins, wp_compF, wp_forF, wipe_nil, wipe_cons, restore_nil, restore_cons, wip_nil, wip_cons, wipS_emp, wipS_val, tok_none, rng1, rng2, rng3, rngL1, rngL2, tok_lst, tok_tup, forK_nx, forK_ct, forK_bk, forK_rt, Bool.and_self, Bool.and_true, Bool.true_and, Int.reduceToNat, Int.toNat_natCast, Int.reduceSub, Nat.reduceSub, nums_len, wp_ok, wp_bad, wp_bind, wp_ret, wp_some, wp_none, wp_ifS, wp_ifSm, wp_ifSb, Bool.false_eq_true, wp_if, br_true, br_false, br_dec, br_not, cbr_true, cbr_false, cbr_dec, cbr_not, wp_ofRC, wp_blk, cp_ok, endK_rt, endK_nx, orc_n, orc_s, look_zero, look_succ, has_zero, has_succ, set_zero, set_succ, getS_val, getS_ownT, getS_ownF, getS_owniT, getS_owniF, view_slt, view_ref, viewS_own, viewS_owni, viewO_lst, viewO_ins, view_int, view_bl, view_str, view_non, view_tup, view_lst, view_ins, go_nx, go_rt, go_bk, go_ct, bin_addI, bin_subI, bin_mulI, bin_fdivI, bin_modI, bin_addT, bin_addL, cmp_eqI, cmp_neI, cmp_ltI, cmp_leI, cmp_gtI, cmp_geI, idx_lst, idx_tup, at_0, at_1, at_2, at_3, at_4, at_5, at_m1, len_lst, len_tup, bi_int, bi_abs, bi_intb, bi_max2, bi_min2, bi_min3, bi_tupL, bi_tupT, bi_lstL, bi_lstT, seq_lst, seq_tup, lst_lst, bl_bl, int_int, isN_int, isN_bl, isN_non, isN_tup, isN_lst, isN_str, isN_ins, isB_int, isB_tup, isB_non, isB_str, isB_tt, isB_tf, isB_ft, isB_ff, lix_n, lix_t, lix_f, Int.cast_ofNat_Int, in_lst, in_tup, nin_lst, nin_tup, srt_lst, srt_tup, eq_tups, isT_int, isT_tup, isT_lst, isT_str, isT_bl, isT_non, isT_ins, isT_nil, putS_own, putR_lst, wp_putS, wp_putR, wp_setSub, setX_0, setX_1, setX_2, setX_3, wp_mtD, mtX_pop, mtX_app, Option.map_some, Option.map_none, Option.bind_some, Option.bind_none, List.map_cons, List.map_nil, List.append_nil, List.nil_append, List.cons_append, List.replicate_succ, List.replicate_zero, true_and, and_true, if_true, if_false, ne_eq, not_true_eq_false, not_false_eq_true, Bool.not_true, Bool.not_false, forall_const, forall_false, implies_true, false_implies, true_implies, reduceCtorEq, List.set_set, mulOk_l, mulOk_r, Int.reduceEq, Int.reduceLT, Int.reduceLE, na_lit, na_neg, Nat.reduceLT, Nat.reduceLeDiff, and_self, List.length_cons, List.length_nil, Tgs.len, Nat.reduceAdd, Nat.reduceEqDiff, eq_self, decide_true, decide_false, List.getElem?_cons_zero, List.getElem?_cons_succ, Bool.and_false, Bool.false_and, Bool.or_true, Bool.or_false, Bool.true_or, Bool.false_or, and_assoc, fn_least_apart, b_least_apart, e, xk, xf, xw1, xw2]
  · simp only [↓wp_int, ↓wp_str, ↓wp_bl, ↓wp_non, ↓wp_gint, ↓wp_gcls, ↓wp_var, ↓wp_tup, ↓wp_lst, ↓wp_bin, ↓wp_neg, ↓wp_cmp, ↓wp_isc, ↓wp_chain, ↓wp_and, ↓wp_or, ↓wp_and1, ↓wp_and2, ↓wp_or1, ↓wp_or2, ↓wp_not, ↓wp_ifx, ↓wp_idx, ↓wp_slc, ↓wp_rev, ↓wp_fld, ↓wp_call, ↓wp_callk, ↓wp_new, ↓wp_bi, ↓wp_lrg, ↓wp_isi, ↓wp_mt, ↓wp_comp, ↓wp_gal, ↓wp_evP0, ↓wp_evP1, ↓wp_nil, ↓wp_cons, ↓wp_nilB, ↓wp_consB, ↓wp_ts0, ↓wp_ts1, ↓wo_lst, ↓wo_comp, ↓wo_lrg, ↓wo_list, ↓wo_sorted, ↓wo_rev, ↓wo_add, ↓wo_mul, ↓wi_seq, ↓wi_rng, ↓wi_enum, ↓wt_nm, ↓wt_tup, ↓wt_nil, ↓wt_cons, ↓wt_sub, ↓wt_fld, ↓ws_nil, ↓ws_asg, ↓ws_aown, ↓ws_par, ↓ws_expr, ↓ws_ret, ↓ws_retn, ↓ws_pas, ↓ws_doc, ↓ws_brk, ↓ws_cnt, ↓ws_iteN, ↓ws_ite, ↓ws_for, ↓ws_whl, mtX_popS, eq_nils, ne_nils, pk_nil', pk_cons', Option.toList_some, Option.toList_none, bin_powI, at_ibI, slcT_to, slcL_to, List.take_succ_cons, List.take_zero, Int.reduceNeg, Int.zero_add, setX_m1, wp_setFld, setFS_new, fld_ins, wp_compF, wp_forF, wipe_nil, wipe_cons, restore_nil, restore_cons, wip_nil, wip_cons, wipS_emp, wipS_val, tok_none, rng1, rng2, rng3, rngL1, rngL2, tok_lst, tok_tup, forK_nx, forK_ct, forK_bk, forK_rt, Bool.and_self, Bool.and_true, Bool.true_and, Int.reduceToNat, Int.toNat_natCast, Int.reduceSub, Nat.reduceSub, nums_len, wp_ok, wp_bad, wp_bind, wp_ret, wp_some, wp_none, wp_ifS, wp_ifSm, wp_ifSb, Bool.false_eq_true, wp_if, br_true, br_false, br_dec, br_not, cbr_true, cbr_false, cbr_dec, cbr_not, wp_ofRC, wp_blk, cp_ok, endK_rt, endK_nx, orc_n, orc_s, look_zero, look_succ, has_zero, has_succ, set_zero, set_succ, getS_val, getS_ownT, getS_ownF, getS_owniT, getS_owniF, view_slt, view_ref, viewS_own, viewS_owni, viewO_lst, viewO_ins, view_int, view_bl, view_str, view_non, view_tup, view_lst, view_ins, go_nx, go_rt, go_bk, go_ct, bin_addI, bin_subI, bin_mulI, bin_fdivI, bin_modI, bin_addT, bin_addL, cmp_eqI, cmp_neI, cmp_ltI, cmp_leI, cmp_gtI, cmp_geI, idx_lst, idx_tup, at_0, at_1, at_2, at_3, at_4, at_5, at_m1, len_lst, len_tup, bi_int, bi_abs, bi_intb, bi_max2, bi_min2, bi_min3, bi_tupL, bi_tupT, bi_lstL, bi_lstT, seq_lst, seq_tup, lst_lst, bl_bl, int_int, isN_int, isN_bl, isN_non, isN_tup, isN_lst, isN_str, isN_ins, isB_int, isB_tup, isB_non, isB_str, isB_tt, isB_tf, isB_ft, isB_ff, lix_n, lix_t, lix_f, Int.cast_ofNat_Int, in_lst, in_tup, nin_lst, nin_tup, srt_lst, srt_tup, eq_tups, isT_int, isT_tup, isT_lst, isT_str, isT_bl, isT_non, isT_ins, isT_nil, putS_own, putR_lst, wp_putS, wp_putR, wp_setSub, setX_0, setX_1, setX_2, setX_3, wp_mtD, mtX_pop, mtX_app, Option.map_some, Option.map_none, Option.bind_some, Option.bind_none, List.map_cons, List.map_nil, List.append_nil, List.nil_append, List.cons_append, List.replicate_succ, List.replicate_zero, true_and, and_true, if_true, if_false, ne_eq, not_true_eq_false, not_false_eq_true, Bool.not_true, Bool.not_false, forall_const, forall_false, implies_true, false_implies, true_implies, reduceCtorEq, List.set_set, mulOk_l, mulOk_r, Int.reduceEq, Int.reduceLT, Int.reduceLE, na_lit, na_neg, Nat.reduceLT, Nat.reduceLeDiff, and_self, List.length_cons, List.length_nil, Tgs.len, Nat.reduceAdd, Nat.reduceEqDiff, eq_self, decide_true, decide_false, List.getElem?_cons_zero, List.getElem?_cons_succ, Bool.and_false, Bool.false_and, Bool.or_true, Bool.or_false, Bool.true_or, Bool.false_or, and_assoc, fn_least_apart, b_least_apart, e, xk, xf, xw1, xw2]
  · simp only [↓wp_int, ↓wp_str, ↓wp_bl, ↓wp_non, ↓wp_gint, ↓wp_gcls, ↓wp_var, ↓wp_tup, ↓wp_lst, ↓wp_bin, ↓wp_neg, ↓wp_cmp, ↓wp_isc, ↓wp_chain, ↓wp_and, ↓wp_or, ↓wp_and1, ↓wp_and2, ↓wp_or1, ↓wp_or2, ↓wp_not, ↓wp_ifx, ↓wp_idx, ↓wp_slc, ↓wp_rev, ↓wp_fld, ↓wp_call, ↓wp_callk, ↓wp_new, ↓wp_bi, ↓wp_lrg, ↓wp_isi, ↓wp_mt, ↓wp_comp, ↓wp_gal, ↓wp_evP0, ↓wp_evP1, ↓wp_nil, ↓wp_cons, ↓wp_nilB, ↓wp_consB, ↓wp_ts0, ↓wp_ts1, ↓wo_lst, ↓wo_comp, ↓wo_lrg, ↓wo_list, ↓wo_sorted, ↓wo_rev, ↓wo_add, ↓wo_mul, ↓wi_seq, ↓wi_rng, ↓wi_enum, ↓wt_nm, ↓wt_tup, ↓wt_nil, ↓wt_cons, ↓wt_sub, ↓wt_fld, ↓ws_nil, ↓ws_asg, ↓ws_aown, ↓ws_par, ↓ws_expr, ↓ws_ret, ↓ws_retn, ↓ws_pas, ↓ws_doc, ↓ws_brk, ↓ws_cnt, ↓ws_iteN, ↓ws_ite, ↓ws_for, ↓ws_whl, mtX_popS, eq_nils, ne_nils, pk_nil', pk_cons', Option.toList_some, Option.toList_none, bin_powI, at_ibI, slcT_to, slcL_to, List.take_succ_cons, List.take_zero, Int.reduceNeg, Int.zero_add, setX_m1, wp_setFld, setFS_new, fld_ins, wp_compF, wp_forF, wipe_nil, wipe_cons, restore_nil, restore_cons, wip_nil, wip_cons, wipS_emp, wipS_val, tok_none, rng1, rng2, rng3, rngL1, rngL2, tok_lst, tok_tup, forK_nx, forK_ct, forK_bk, forK_rt, Bool.and_self, Bool.and_true, Bool.true_and, Int.reduceToNat, Int.toNat_natCast, Int.reduceSub, Nat.reduceSub, nums_len, wp_ok, wp_bad, wp_bind, wp_ret, wp_some, wp_none, wp_ifS, wp_ifSm, wp_ifSb, Bool.false_eq_true, wp_if, br_true, br_false, br_dec, br_not, cbr_true, cbr_false, cbr_dec, cbr_not, wp_ofRC, wp_blk, cp_ok, endK_rt, endK_nx, orc_n, orc_s, look_zero, look_succ, has_zero, has_succ, set_zero, set_succ, getS_val, getS_ownT, getS_ownF, getS_owniT, getS_owniF, view_slt, view_ref, viewS_own, viewS_owni, viewO_lst, viewO_ins, view_int, view_bl, view_str, view_non, view_tup, view_lst, view_ins, go_nx, go_rt, go_bk, go_ct, bin_addI, bin_subI, bin_mulI, bin_fdivI, bin_modI, bin_addT, bin_addL, cmp_eqI, cmp_neI, cmp_ltI, cmp_leI, cmp_gtI, cmp_geI, idx_lst, idx_tup, at_0, at_1, at_2, at_3, at_4, at_5, at_m1, len_lst, len_tup, bi_int, bi_abs, bi_intb, bi_max2, bi_min2, bi_min3, bi_tupL, bi_tupT, bi_lstL, bi_lstT, seq_lst, seq_tup, lst_lst, bl_bl, int_int, isN_int, isN_bl, isN_non, isN_tup, isN_lst, isN_str, isN_ins, isB_int, isB_tup, isB_non, isB_str, isB_tt, isB_tf, isB_ft, isB_ff, lix_n, lix_t, lix_f, Int.cast_ofNat_Int, in_lst, in_tup, nin_lst, nin_tup, srt_lst, srt_tup, eq_tups, isT_int, isT_tup, isT_lst, isT_str, isT_bl, isT_non, isT_ins, isT_nil, putS_own, putR_lst, wp_putS, wp_putR, wp_setSub, setX_0, setX_1, setX_2, setX_3, wp_mtD, mtX_pop, mtX_app, Option.map_some, Option.map_none, Option.bind_some, Option.bind_none, List.map_cons, List.map_nil, List.append_nil, List.nil_append, List.cons_append, List.replicate_succ, List.replicate_zero, true_and, and_true, if_true, if_false, ne_eq, not_true_eq_false, not_false_eq_true, Bool.not_true, Bool.not_false, forall_const, forall_false, implies_true, false_implies, true_implies, reduceCtorEq, List.set_set, mulOk_l, mulOk_r, Int.reduceEq, Int.reduceLT, Int.reduceLE, na_lit, na_neg, Nat.reduceLT, Nat.reduceLeDiff, and_self, List.length_cons, List.length_nil, Tgs.len, Nat.reduceAdd, Nat.reduceEqDiff, eq_self, decide_true, decide_false, List.getElem?_cons_zero, List.getElem?_cons_succ, Bool.and_false, Bool.false_and, Bool.or_true, Bool.or_false, Bool.true_or, Bool.false_or, and_assoc, fn_least_apart, b_least_apart, e, xk, xf, xw1, xw2]
theorem law_apart {q : Nat} {k f d a b c s : Int} {S : List Ob} (hk : 2 ≤ q) : callF T q f__law_apart none [.tup [.int k, .int f, .int d, .int a, .int b, .int c], .int s] S = .ok (apartS k f a b c s) S := by
  refine cp_get (t := .mk) (cp_run T__law_apart rfl (by omega) ?_)
  have e := law_kind (q := q - 1) (k := k) (f := f) (d := d) (a := a) (b := b) (c := c) (s := s) (S := S) (by omega)
  rcases kind_cases k f a b c s with ⟨h1, h2⟩ | ⟨h1, h2⟩ | ⟨h1, h2⟩ <;> rw [h1] at e <;> rw [h2]
  · simp only [↓wp_int, ↓wp_str, ↓wp_bl, ↓wp_non, ↓wp_gint, ↓wp_gcls, ↓wp_var, ↓wp_tup, ↓wp_lst, ↓wp_bin, ↓wp_neg, ↓wp_cmp, ↓wp_isc, ↓wp_chain, ↓wp_and, ↓wp_or, ↓wp_and1, ↓wp_and2, ↓wp_or1, ↓wp_or2, ↓wp_not, ↓wp_ifx, ↓wp_idx, ↓wp_slc, ↓wp_rev, ↓wp_fld, ↓wp_call, ↓wp_callk, ↓wp_new, ↓wp_bi, ↓wp_lrg, ↓wp_isi, ↓wp_mt, ↓wp_comp, ↓wp_gal, ↓wp_evP0, ↓wp_evP1, ↓wp_nil, ↓wp_cons, ↓wp_nilB, ↓wp_consB, ↓wp_ts0, ↓wp_ts1, ↓wo_lst, ↓wo_comp, ↓wo_lrg, ↓wo_list, ↓wo_sorted, ↓wo_rev, ↓wo_add, ↓wo_mul, ↓wi_seq, ↓wi_rng, ↓wi_enum, ↓wt_nm, ↓wt_tup, ↓wt_nil, ↓wt_cons, ↓wt_sub, ↓wt_fld, ↓ws_nil, ↓ws_asg, ↓ws_aown, ↓ws_par, ↓ws_expr, ↓ws_ret, ↓ws_retn, ↓ws_pas, ↓ws_doc, ↓ws_brk, ↓ws_cnt, ↓ws_iteN, ↓ws_ite, ↓ws_for, ↓ws_whl, mtX_popS, eq_nils, ne_nils, pk_nil', pk_cons', Option.toList_some, Option.toList_none, bin_powI, at_ibI, slcT_to, slcL_to, List.take_succ_cons, List.take_zero, Int.reduceNeg, Int.zero_add, setX_m1, wp_setFld, setFS_new, fld_ins, wp_compF, wp_forF, wipe_nil, wipe_cons, restore_nil, restore_cons, wip_nil, wip_cons, wipS_emp, wipS_val, tok_none, rng1, rng2, rng3, rngL1, rngL2, tok_lst, tok_tup, forK_nx, forK_ct, forK_bk, forK_rt, Bool.and_self, Bool.and_true, Bool.true_and, Int.reduceToNat, Int.toNat_natCast, Int.reduceSub, Nat.reduceSub, nums_len, wp_ok, wp_bad, wp_bind, wp_ret, wp_some, wp_none, wp_ifS, wp_ifSm, wp_ifSb, Bool.false_eq_true, wp_if, br_true, br_false, br_dec, br_not, cbr_true, cbr_false, cbr_dec, cbr_not, wp_ofRC, wp_blk, cp_ok, endK_rt, endK_nx, orc_n, orc_s, look_zero, look_succ, has_zero, has_succ, set_zero, set_succ, getS_val, getS_ownT, getS_ownF, getS_owniT, getS_owniF, view_slt, view_ref, viewS_own, viewS_owni, viewO_lst, viewO_ins, view_int, view_bl, view_str, view_non, view_tup, view_lst, view_ins, go_nx, go_rt, go_bk, go_ct, bin_addI, bin_subI, bin_mulI, bin_fdivI, bin_modI, bin_addT, bin_addL, cmp_eqI, cmp_neI, cmp_ltI, cmp_leI, cmp_gtI, cmp_geI, idx_lst, idx_tup, at_0, at_1, at_2, at_3, at_4, at_5, at_m1, len_lst, len_tup, bi_int, bi_abs, bi_intb, bi_max2, bi_min2, bi_min3, bi_tupL, bi_tupT, bi_lstL, bi_lstT, seq_lst, seq_tup, lst_lst, bl_bl, int_int, isN_int, isN_bl, isN_non, isN_tup, isN_lst, isN_str, isN_ins, isB_int, isB_tup, isB_non, isB_str, isB_tt, isB_tf, isB_ft, isB_ff, lix_n, lix_t, lix_f, Int.cast_ofNat_Int, in_lst, in_tup, nin_lst, nin_tup, srt_lst, srt_tup, eq_tups, isT_int, isT_tup, isT_lst, isT_str, isT_bl, isT_non, isT_ins, isT_nil, putS_own, putR_lst, wp_putS, wp_putR, wp_setSub, setX_0, setX_1, setX_2, setX_3, wp_mtD, mtX_pop, mtX_app, Option.map_some, Option.map_none, Option.bind_some, Option.bind_none, List.map_cons, List.map_nil, List.append_nil, List.nil_append, List.cons_append, List.replicate_succ, List.replicate_zero, true_and, and_true, if_true, if_false, ne_eq, not_true_eq_false, not_false_eq_true, Bool.not_true, Bool.not_false, forall_const, forall_false, implies_true, false_implies, true_implies, reduceCtorEq, List.set_set, mulOk_l, mulOk_r, Int.reduceEq, Int.reduceLT, Int.reduceLE, na_lit, na_neg, Nat.reduceLT, Nat.reduceLeDiff, and_self, List.length_cons, List.length_nil, Tgs.len, Nat.reduceAdd, Nat.reduceEqDiff, eq_self, decide_true, decide_false, List.getElem?_cons_zero, List.getElem?_cons_succ, Bool.and_false, Bool.false_and, Bool.or_true, Bool.or_false, Bool.true_or, Bool.false_or, and_assoc, fn__law_apart, b__law_apart, e]
  · simp only [↓wp_int, ↓wp_str, ↓wp_bl, ↓wp_non, ↓wp_gint, ↓wp_gcls, ↓wp_var, ↓wp_tup, ↓wp_lst, ↓wp_bin, ↓wp_neg, ↓wp_cmp, ↓wp_isc, ↓wp_chain, ↓wp_and, ↓wp_or, ↓wp_and1, ↓wp_and2, ↓wp_or1, ↓wp_or2, ↓wp_not, ↓wp_ifx, ↓wp_idx, ↓wp_slc, ↓wp_rev, ↓wp_fld, ↓wp_call, ↓wp_callk, ↓wp_new, ↓wp_bi, ↓wp_lrg, ↓wp_isi, ↓wp_mt, ↓wp_comp, ↓wp_gal, ↓wp_evP0, ↓wp_evP1, ↓wp_nil, ↓wp_cons, ↓wp_nilB, ↓wp_consB, ↓wp_ts0, ↓wp_ts1, ↓wo_lst, ↓wo_comp, ↓wo_lrg, ↓wo_list, ↓wo_sorted, ↓wo_rev, ↓wo_add, ↓wo_mul, ↓wi_seq, ↓wi_rng, ↓wi_enum, ↓wt_nm, ↓wt_tup, ↓wt_nil, ↓wt_cons, ↓wt_sub, ↓wt_fld, ↓ws_nil, ↓ws_asg, ↓ws_aown, ↓ws_par, ↓ws_expr, ↓ws_ret, ↓ws_retn, ↓ws_pas, ↓ws_doc, ↓ws_brk, ↓ws_cnt, ↓ws_iteN, ↓ws_ite, ↓ws_for, ↓ws_whl, mtX_popS, eq_nils, ne_nils, pk_nil', pk_cons', Option.toList_some, Option.toList_none, bin_powI, at_ibI, slcT_to, slcL_to, List.take_succ_cons, List.take_zero, Int.reduceNeg, Int.zero_add, setX_m1, wp_setFld, setFS_new, fld_ins, wp_compF, wp_forF, wipe_nil, wipe_cons, restore_nil, restore_cons, wip_nil, wip_cons, wipS_emp, wipS_val, tok_none, rng1, rng2, rng3, rngL1, rngL2, tok_lst, tok_tup, forK_nx, forK_ct, forK_bk, forK_rt, Bool.and_self, Bool.and_true, Bool.true_and, Int.reduceToNat, Int.toNat_natCast, Int.reduceSub, Nat.reduceSub, nums_len, wp_ok, wp_bad, wp_bind, wp_ret, wp_some, wp_none, wp_ifS, wp_ifSm, wp_ifSb, Bool.false_eq_true, wp_if, br_true, br_false, br_dec, br_not, cbr_true, cbr_false, cbr_dec, cbr_not, wp_ofRC, wp_blk, cp_ok, endK_rt, endK_nx, orc_n, orc_s, look_zero, look_succ, has_zero, has_succ, set_zero, set_succ, getS_val, getS_ownT, getS_ownF, getS_owniT, getS_owniF, view_slt, view_ref, viewS_own, viewS_owni, viewO_lst, viewO_ins, view_int, view_bl, view_str, view_non, view_tup, view_lst, view_ins, go_nx, go_rt, go_bk, go_ct, bin_addI, bin_subI, bin_mulI, bin_fdivI, bin_modI, bin_addT, bin_addL, cmp_eqI, cmp_neI, cmp_ltI, cmp_leI, cmp_gtI, cmp_geI, idx_lst, idx_tup, at_0, at_1, at_2, at_3, at_4, at_5, at_m1, len_lst, len_tup, bi_int, bi_abs, bi_intb, bi_max2, bi_min2, bi_min3, bi_tupL, bi_tupT, bi_lstL, bi_lstT, seq_lst, seq_tup, lst_lst, bl_bl, int_int, isN_int, isN_bl, isN_non, isN_tup, isN_lst, isN_str, isN_ins, isB_int, isB_tup, isB_non, isB_str, isB_tt, isB_tf, isB_ft, isB_ff, lix_n, lix_t, lix_f, Int.cast_ofNat_Int, in_lst, in_tup, nin_lst, nin_tup, srt_lst, srt_tup, eq_tups, isT_int, isT_tup, isT_lst, isT_str, isT_bl, isT_non, isT_ins, isT_nil, putS_own, putR_lst, wp_putS, wp_putR, wp_setSub, setX_0, setX_1, setX_2, setX_3, wp_mtD, mtX_pop, mtX_app, Option.map_some, Option.map_none, Option.bind_some, Option.bind_none, List.map_cons, List.map_nil, List.append_nil, List.nil_append, List.cons_append, List.replicate_succ, List.replicate_zero, true_and, and_true, if_true, if_false, ne_eq, not_true_eq_false, not_false_eq_true, Bool.not_true, Bool.not_false, forall_const, forall_false, implies_true, false_implies, true_implies, reduceCtorEq, List.set_set, mulOk_l, mulOk_r, Int.reduceEq, Int.reduceLT, Int.reduceLE, na_lit, na_neg, Nat.reduceLT, Nat.reduceLeDiff, and_self, List.length_cons, List.length_nil, Tgs.len, Nat.reduceAdd, Nat.reduceEqDiff, eq_self, decide_true, decide_false, List.getElem?_cons_zero, List.getElem?_cons_succ, Bool.and_false, Bool.false_and, Bool.or_true, Bool.or_false, Bool.true_or, Bool.false_or, and_assoc, fn__law_apart, b__law_apart, e]
  · simp only [↓wp_int, ↓wp_str, ↓wp_bl, ↓wp_non, ↓wp_gint, ↓wp_gcls, ↓wp_var, ↓wp_tup, ↓wp_lst, ↓wp_bin, ↓wp_neg, ↓wp_cmp, ↓wp_isc, ↓wp_chain, ↓wp_and, ↓wp_or, ↓wp_and1, ↓wp_and2, ↓wp_or1, ↓wp_or2, ↓wp_not, ↓wp_ifx, ↓wp_idx, ↓wp_slc, ↓wp_rev, ↓wp_fld, ↓wp_call, ↓wp_callk, ↓wp_new, ↓wp_bi, ↓wp_lrg, ↓wp_isi, ↓wp_mt, ↓wp_comp, ↓wp_gal, ↓wp_evP0, ↓wp_evP1, ↓wp_nil, ↓wp_cons, ↓wp_nilB, ↓wp_consB, ↓wp_ts0, ↓wp_ts1, ↓wo_lst, ↓wo_comp, ↓wo_lrg, ↓wo_list, ↓wo_sorted, ↓wo_rev, ↓wo_add, ↓wo_mul, ↓wi_seq, ↓wi_rng, ↓wi_enum, ↓wt_nm, ↓wt_tup, ↓wt_nil, ↓wt_cons, ↓wt_sub, ↓wt_fld, ↓ws_nil, ↓ws_asg, ↓ws_aown, ↓ws_par, ↓ws_expr, ↓ws_ret, ↓ws_retn, ↓ws_pas, ↓ws_doc, ↓ws_brk, ↓ws_cnt, ↓ws_iteN, ↓ws_ite, ↓ws_for, ↓ws_whl, mtX_popS, eq_nils, ne_nils, pk_nil', pk_cons', Option.toList_some, Option.toList_none, bin_powI, at_ibI, slcT_to, slcL_to, List.take_succ_cons, List.take_zero, Int.reduceNeg, Int.zero_add, setX_m1, wp_setFld, setFS_new, fld_ins, wp_compF, wp_forF, wipe_nil, wipe_cons, restore_nil, restore_cons, wip_nil, wip_cons, wipS_emp, wipS_val, tok_none, rng1, rng2, rng3, rngL1, rngL2, tok_lst, tok_tup, forK_nx, forK_ct, forK_bk, forK_rt, Bool.and_self, Bool.and_true, Bool.true_and, Int.reduceToNat, Int.toNat_natCast, Int.reduceSub, Nat.reduceSub, nums_len, wp_ok, wp_bad, wp_bind, wp_ret, wp_some, wp_none, wp_ifS, wp_ifSm, wp_ifSb, Bool.false_eq_true, wp_if, br_true, br_false, br_dec, br_not, cbr_true, cbr_false, cbr_dec, cbr_not, wp_ofRC, wp_blk, cp_ok, endK_rt, endK_nx, orc_n, orc_s, look_zero, look_succ, has_zero, has_succ, set_zero, set_succ, getS_val, getS_ownT, getS_ownF, getS_owniT, getS_owniF, view_slt, view_ref, viewS_own, viewS_owni, viewO_lst, viewO_ins, view_int, view_bl, view_str, view_non, view_tup, view_lst, view_ins, go_nx, go_rt, go_bk, go_ct, bin_addI, bin_subI, bin_mulI, bin_fdivI, bin_modI, bin_addT, bin_addL, cmp_eqI, cmp_neI, cmp_ltI, cmp_leI, cmp_gtI, cmp_geI, idx_lst, idx_tup, at_0, at_1, at_2, at_3, at_4, at_5, at_m1, len_lst, len_tup, bi_int, bi_abs, bi_intb, bi_max2, bi_min2, bi_min3, bi_tupL, bi_tupT, bi_lstL, bi_lstT, seq_lst, seq_tup, lst_lst, bl_bl, int_int, isN_int, isN_bl, isN_non, isN_tup, isN_lst, isN_str, isN_ins, isB_int, isB_tup, isB_non, isB_str, isB_tt, isB_tf, isB_ft, isB_ff, lix_n, lix_t, lix_f, Int.cast_ofNat_Int, in_lst, in_tup, nin_lst, nin_tup, srt_lst, srt_tup, eq_tups, isT_int, isT_tup, isT_lst, isT_str, isT_bl, isT_non, isT_ins, isT_nil, putS_own, putR_lst, wp_putS, wp_putR, wp_setSub, setX_0, setX_1, setX_2, setX_3, wp_mtD, mtX_pop, mtX_app, Option.map_some, Option.map_none, Option.bind_some, Option.bind_none, List.map_cons, List.map_nil, List.append_nil, List.nil_append, List.cons_append, List.replicate_succ, List.replicate_zero, true_and, and_true, if_true, if_false, ne_eq, not_true_eq_false, not_false_eq_true, Bool.not_true, Bool.not_false, forall_const, forall_false, implies_true, false_implies, true_implies, reduceCtorEq, List.set_set, mulOk_l, mulOk_r, Int.reduceEq, Int.reduceLT, Int.reduceLE, na_lit, na_neg, Nat.reduceLT, Nat.reduceLeDiff, and_self, List.length_cons, List.length_nil, Tgs.len, Nat.reduceAdd, Nat.reduceEqDiff, eq_self, decide_true, decide_false, List.getElem?_cons_zero, List.getElem?_cons_succ, Bool.and_false, Bool.false_and, Bool.or_true, Bool.or_false, Bool.true_or, Bool.false_or, and_assoc, fn__law_apart, b__law_apart, e]
theorem like_int {q : Nat} {n : Int} {S : List Ob} (hk : 1 ≤ q) : callF T q f__law_like none [.int n, .int n] S = .ok (.bl true) S := by
  refine cp_get (t := .mk) (cp_run T__law_like rfl (by omega) ?_)
  simp only [↓wp_int, ↓wp_str, ↓wp_bl, ↓wp_non, ↓wp_gint, ↓wp_gcls, ↓wp_var, ↓wp_tup, ↓wp_lst, ↓wp_bin, ↓wp_neg, ↓wp_cmp, ↓wp_isc, ↓wp_chain, ↓wp_and, ↓wp_or, ↓wp_and1, ↓wp_and2, ↓wp_or1, ↓wp_or2, ↓wp_not, ↓wp_ifx, ↓wp_idx, ↓wp_slc, ↓wp_rev, ↓wp_fld, ↓wp_call, ↓wp_callk, ↓wp_new, ↓wp_bi, ↓wp_lrg, ↓wp_isi, ↓wp_mt, ↓wp_comp, ↓wp_gal, ↓wp_evP0, ↓wp_evP1, ↓wp_nil, ↓wp_cons, ↓wp_nilB, ↓wp_consB, ↓wp_ts0, ↓wp_ts1, ↓wo_lst, ↓wo_comp, ↓wo_lrg, ↓wo_list, ↓wo_sorted, ↓wo_rev, ↓wo_add, ↓wo_mul, ↓wi_seq, ↓wi_rng, ↓wi_enum, ↓wt_nm, ↓wt_tup, ↓wt_nil, ↓wt_cons, ↓wt_sub, ↓wt_fld, ↓ws_nil, ↓ws_asg, ↓ws_aown, ↓ws_par, ↓ws_expr, ↓ws_ret, ↓ws_retn, ↓ws_pas, ↓ws_doc, ↓ws_brk, ↓ws_cnt, ↓ws_iteN, ↓ws_ite, ↓ws_for, ↓ws_whl, mtX_popS, eq_nils, ne_nils, pk_nil', pk_cons', Option.toList_some, Option.toList_none, bin_powI, at_ibI, slcT_to, slcL_to, List.take_succ_cons, List.take_zero, Int.reduceNeg, Int.zero_add, setX_m1, wp_setFld, setFS_new, fld_ins, wp_compF, wp_forF, wipe_nil, wipe_cons, restore_nil, restore_cons, wip_nil, wip_cons, wipS_emp, wipS_val, tok_none, rng1, rng2, rng3, rngL1, rngL2, tok_lst, tok_tup, forK_nx, forK_ct, forK_bk, forK_rt, Bool.and_self, Bool.and_true, Bool.true_and, Int.reduceToNat, Int.toNat_natCast, Int.reduceSub, Nat.reduceSub, nums_len, wp_ok, wp_bad, wp_bind, wp_ret, wp_some, wp_none, wp_ifS, wp_ifSm, wp_ifSb, Bool.false_eq_true, wp_if, br_true, br_false, br_dec, br_not, cbr_true, cbr_false, cbr_dec, cbr_not, wp_ofRC, wp_blk, cp_ok, endK_rt, endK_nx, orc_n, orc_s, look_zero, look_succ, has_zero, has_succ, set_zero, set_succ, getS_val, getS_ownT, getS_ownF, getS_owniT, getS_owniF, view_slt, view_ref, viewS_own, viewS_owni, viewO_lst, viewO_ins, view_int, view_bl, view_str, view_non, view_tup, view_lst, view_ins, go_nx, go_rt, go_bk, go_ct, bin_addI, bin_subI, bin_mulI, bin_fdivI, bin_modI, bin_addT, bin_addL, cmp_eqI, cmp_neI, cmp_ltI, cmp_leI, cmp_gtI, cmp_geI, idx_lst, idx_tup, at_0, at_1, at_2, at_3, at_4, at_5, at_m1, len_lst, len_tup, bi_int, bi_abs, bi_intb, bi_max2, bi_min2, bi_min3, bi_tupL, bi_tupT, bi_lstL, bi_lstT, seq_lst, seq_tup, lst_lst, bl_bl, int_int, isN_int, isN_bl, isN_non, isN_tup, isN_lst, isN_str, isN_ins, isB_int, isB_tup, isB_non, isB_str, isB_tt, isB_tf, isB_ft, isB_ff, lix_n, lix_t, lix_f, Int.cast_ofNat_Int, in_lst, in_tup, nin_lst, nin_tup, srt_lst, srt_tup, eq_tups, isT_int, isT_tup, isT_lst, isT_str, isT_bl, isT_non, isT_ins, isT_nil, putS_own, putR_lst, wp_putS, wp_putR, wp_setSub, setX_0, setX_1, setX_2, setX_3, wp_mtD, mtX_pop, mtX_app, Option.map_some, Option.map_none, Option.bind_some, Option.bind_none, List.map_cons, List.map_nil, List.append_nil, List.nil_append, List.cons_append, List.replicate_succ, List.replicate_zero, true_and, and_true, if_true, if_false, ne_eq, not_true_eq_false, not_false_eq_true, Bool.not_true, Bool.not_false, forall_const, forall_false, implies_true, false_implies, true_implies, reduceCtorEq, List.set_set, mulOk_l, mulOk_r, Int.reduceEq, Int.reduceLT, Int.reduceLE, na_lit, na_neg, Nat.reduceLT, Nat.reduceLeDiff, and_self, List.length_cons, List.length_nil, Tgs.len, Nat.reduceAdd, Nat.reduceEqDiff, eq_self, decide_true, decide_false, List.getElem?_cons_zero, List.getElem?_cons_succ, Bool.and_false, Bool.false_and, Bool.or_true, Bool.or_false, Bool.true_or, Bool.false_or, and_assoc, fn__law_like, b__law_like]
theorem like_non {q : Nat} {S : List Ob} (hk : 1 ≤ q) : callF T q f__law_like none [.non, .non] S = .ok (.bl true) S := by
  refine cp_get (t := .mk) (cp_run T__law_like rfl (by omega) ?_)
  simp only [↓wp_int, ↓wp_str, ↓wp_bl, ↓wp_non, ↓wp_gint, ↓wp_gcls, ↓wp_var, ↓wp_tup, ↓wp_lst, ↓wp_bin, ↓wp_neg, ↓wp_cmp, ↓wp_isc, ↓wp_chain, ↓wp_and, ↓wp_or, ↓wp_and1, ↓wp_and2, ↓wp_or1, ↓wp_or2, ↓wp_not, ↓wp_ifx, ↓wp_idx, ↓wp_slc, ↓wp_rev, ↓wp_fld, ↓wp_call, ↓wp_callk, ↓wp_new, ↓wp_bi, ↓wp_lrg, ↓wp_isi, ↓wp_mt, ↓wp_comp, ↓wp_gal, ↓wp_evP0, ↓wp_evP1, ↓wp_nil, ↓wp_cons, ↓wp_nilB, ↓wp_consB, ↓wp_ts0, ↓wp_ts1, ↓wo_lst, ↓wo_comp, ↓wo_lrg, ↓wo_list, ↓wo_sorted, ↓wo_rev, ↓wo_add, ↓wo_mul, ↓wi_seq, ↓wi_rng, ↓wi_enum, ↓wt_nm, ↓wt_tup, ↓wt_nil, ↓wt_cons, ↓wt_sub, ↓wt_fld, ↓ws_nil, ↓ws_asg, ↓ws_aown, ↓ws_par, ↓ws_expr, ↓ws_ret, ↓ws_retn, ↓ws_pas, ↓ws_doc, ↓ws_brk, ↓ws_cnt, ↓ws_iteN, ↓ws_ite, ↓ws_for, ↓ws_whl, mtX_popS, eq_nils, ne_nils, pk_nil', pk_cons', Option.toList_some, Option.toList_none, bin_powI, at_ibI, slcT_to, slcL_to, List.take_succ_cons, List.take_zero, Int.reduceNeg, Int.zero_add, setX_m1, wp_setFld, setFS_new, fld_ins, wp_compF, wp_forF, wipe_nil, wipe_cons, restore_nil, restore_cons, wip_nil, wip_cons, wipS_emp, wipS_val, tok_none, rng1, rng2, rng3, rngL1, rngL2, tok_lst, tok_tup, forK_nx, forK_ct, forK_bk, forK_rt, Bool.and_self, Bool.and_true, Bool.true_and, Int.reduceToNat, Int.toNat_natCast, Int.reduceSub, Nat.reduceSub, nums_len, wp_ok, wp_bad, wp_bind, wp_ret, wp_some, wp_none, wp_ifS, wp_ifSm, wp_ifSb, Bool.false_eq_true, wp_if, br_true, br_false, br_dec, br_not, cbr_true, cbr_false, cbr_dec, cbr_not, wp_ofRC, wp_blk, cp_ok, endK_rt, endK_nx, orc_n, orc_s, look_zero, look_succ, has_zero, has_succ, set_zero, set_succ, getS_val, getS_ownT, getS_ownF, getS_owniT, getS_owniF, view_slt, view_ref, viewS_own, viewS_owni, viewO_lst, viewO_ins, view_int, view_bl, view_str, view_non, view_tup, view_lst, view_ins, go_nx, go_rt, go_bk, go_ct, bin_addI, bin_subI, bin_mulI, bin_fdivI, bin_modI, bin_addT, bin_addL, cmp_eqI, cmp_neI, cmp_ltI, cmp_leI, cmp_gtI, cmp_geI, idx_lst, idx_tup, at_0, at_1, at_2, at_3, at_4, at_5, at_m1, len_lst, len_tup, bi_int, bi_abs, bi_intb, bi_max2, bi_min2, bi_min3, bi_tupL, bi_tupT, bi_lstL, bi_lstT, seq_lst, seq_tup, lst_lst, bl_bl, int_int, isN_int, isN_bl, isN_non, isN_tup, isN_lst, isN_str, isN_ins, isB_int, isB_tup, isB_non, isB_str, isB_tt, isB_tf, isB_ft, isB_ff, lix_n, lix_t, lix_f, Int.cast_ofNat_Int, in_lst, in_tup, nin_lst, nin_tup, srt_lst, srt_tup, eq_tups, isT_int, isT_tup, isT_lst, isT_str, isT_bl, isT_non, isT_ins, isT_nil, putS_own, putR_lst, wp_putS, wp_putR, wp_setSub, setX_0, setX_1, setX_2, setX_3, wp_mtD, mtX_pop, mtX_app, Option.map_some, Option.map_none, Option.bind_some, Option.bind_none, List.map_cons, List.map_nil, List.append_nil, List.nil_append, List.cons_append, List.replicate_succ, List.replicate_zero, true_and, and_true, if_true, if_false, ne_eq, not_true_eq_false, not_false_eq_true, Bool.not_true, Bool.not_false, forall_const, forall_false, implies_true, false_implies, true_implies, reduceCtorEq, List.set_set, mulOk_l, mulOk_r, Int.reduceEq, Int.reduceLT, Int.reduceLE, na_lit, na_neg, Nat.reduceLT, Nat.reduceLeDiff, and_self, List.length_cons, List.length_nil, Tgs.len, Nat.reduceAdd, Nat.reduceEqDiff, eq_self, decide_true, decide_false, List.getElem?_cons_zero, List.getElem?_cons_succ, Bool.and_false, Bool.false_and, Bool.or_true, Bool.or_false, Bool.true_or, Bool.false_or, and_assoc, fn__law_like, b__law_like]
def TrueP (d : D) (S' : List Ob) : Prop := d = .bl true
theorem right {q : Nat} {k f d a b c s : Int} {S : List Ob} (h : Nums k f d a b c) (hk : 5 ≤ q) : callF T q f__law_right none [.tup [.int k, .int f, .int d, .int a, .int b, .int c], .int s] S = .ok (.bl true) S := by
  refine cp_get (t := .mk) (cp_run T__law_right rfl (by omega) ?_)
  simp only [↓wp_int, ↓wp_str, ↓wp_bl, ↓wp_non, ↓wp_gint, ↓wp_gcls, ↓wp_var, ↓wp_tup, ↓wp_lst, ↓wp_bin, ↓wp_neg, ↓wp_cmp, ↓wp_isc, ↓wp_chain, ↓wp_and, ↓wp_or, ↓wp_and1, ↓wp_and2, ↓wp_or1, ↓wp_or2, ↓wp_not, ↓wp_ifx, ↓wp_idx, ↓wp_slc, ↓wp_rev, ↓wp_fld, ↓wp_call, ↓wp_callk, ↓wp_new, ↓wp_bi, ↓wp_lrg, ↓wp_isi, ↓wp_mt, ↓wp_comp, ↓wp_gal, ↓wp_evP0, ↓wp_evP1, ↓wp_nil, ↓wp_cons, ↓wp_nilB, ↓wp_consB, ↓wp_ts0, ↓wp_ts1, ↓wo_lst, ↓wo_comp, ↓wo_lrg, ↓wo_list, ↓wo_sorted, ↓wo_rev, ↓wo_add, ↓wo_mul, ↓wi_seq, ↓wi_rng, ↓wi_enum, ↓wt_nm, ↓wt_tup, ↓wt_nil, ↓wt_cons, ↓wt_sub, ↓wt_fld, ↓ws_nil, ↓ws_asg, ↓ws_aown, ↓ws_par, ↓ws_expr, ↓ws_ret, ↓ws_retn, ↓ws_pas, ↓ws_doc, ↓ws_brk, ↓ws_cnt, ↓ws_iteN, ↓ws_ite, ↓ws_for, ↓ws_whl, mtX_popS, eq_nils, ne_nils, pk_nil', pk_cons', Option.toList_some, Option.toList_none, bin_powI, at_ibI, slcT_to, slcL_to, List.take_succ_cons, List.take_zero, Int.reduceNeg, Int.zero_add, setX_m1, wp_setFld, setFS_new, fld_ins, wp_compF, wp_forF, wipe_nil, wipe_cons, restore_nil, restore_cons, wip_nil, wip_cons, wipS_emp, wipS_val, tok_none, rng1, rng2, rng3, rngL1, rngL2, tok_lst, tok_tup, forK_nx, forK_ct, forK_bk, forK_rt, Bool.and_self, Bool.and_true, Bool.true_and, Int.reduceToNat, Int.toNat_natCast, Int.reduceSub, Nat.reduceSub, nums_len, wp_ok, wp_bad, wp_bind, wp_ret, wp_some, wp_none, wp_ifS, wp_ifSm, wp_ifSb, Bool.false_eq_true, wp_if, br_true, br_false, br_dec, br_not, cbr_true, cbr_false, cbr_dec, cbr_not, wp_ofRC, wp_blk, cp_ok, endK_rt, endK_nx, orc_n, orc_s, look_zero, look_succ, has_zero, has_succ, set_zero, set_succ, getS_val, getS_ownT, getS_ownF, getS_owniT, getS_owniF, view_slt, view_ref, viewS_own, viewS_owni, viewO_lst, viewO_ins, view_int, view_bl, view_str, view_non, view_tup, view_lst, view_ins, go_nx, go_rt, go_bk, go_ct, bin_addI, bin_subI, bin_mulI, bin_fdivI, bin_modI, bin_addT, bin_addL, cmp_eqI, cmp_neI, cmp_ltI, cmp_leI, cmp_gtI, cmp_geI, idx_lst, idx_tup, at_0, at_1, at_2, at_3, at_4, at_5, at_m1, len_lst, len_tup, bi_int, bi_abs, bi_intb, bi_max2, bi_min2, bi_min3, bi_tupL, bi_tupT, bi_lstL, bi_lstT, seq_lst, seq_tup, lst_lst, bl_bl, int_int, isN_int, isN_bl, isN_non, isN_tup, isN_lst, isN_str, isN_ins, isB_int, isB_tup, isB_non, isB_str, isB_tt, isB_tf, isB_ft, isB_ff, lix_n, lix_t, lix_f, Int.cast_ofNat_Int, in_lst, in_tup, nin_lst, nin_tup, srt_lst, srt_tup, eq_tups, isT_int, isT_tup, isT_lst, isT_str, isT_bl, isT_non, isT_ins, isT_nil, putS_own, putR_lst, wp_putS, wp_putR, wp_setSub, setX_0, setX_1, setX_2, setX_3, wp_mtD, mtX_pop, mtX_app, Option.map_some, Option.map_none, Option.bind_some, Option.bind_none, List.map_cons, List.map_nil, List.append_nil, List.nil_append, List.cons_append, List.replicate_succ, List.replicate_zero, true_and, and_true, if_true, if_false, ne_eq, not_true_eq_false, not_false_eq_true, Bool.not_true, Bool.not_false, forall_const, forall_false, implies_true, false_implies, true_implies, reduceCtorEq, List.set_set, mulOk_l, mulOk_r, Int.reduceEq, Int.reduceLT, Int.reduceLE, na_lit, na_neg, Nat.reduceLT, Nat.reduceLeDiff, and_self, List.length_cons, List.length_nil, Tgs.len, Nat.reduceAdd, Nat.reduceEqDiff, eq_self, decide_true, decide_false, List.getElem?_cons_zero, List.getElem?_cons_succ, Bool.and_false, Bool.false_and, Bool.or_true, Bool.or_false, Bool.true_or, Bool.false_or, and_assoc, fn__law_right, b__law_right]
  refine mkNums h (by omega) ?_
  have e1 := kind_of (q := q - 1) (k := k) (f := f) (d := d) (a := a) (b := b) (c := c) (s := s) (S := S) (by omega)
  have e2 := law_kind (q := q - 1) (k := k) (f := f) (d := d) (a := a) (b := b) (c := c) (s := s) (S := S) (by omega)
  have e3 := least_apart (q := q - 1) (k := k) (f := f) (d := d) (a := a) (b := b) (c := c) (s := s) (S := S) (by omega)
  have e4 := law_apart (q := q - 1) (k := k) (f := f) (d := d) (a := a) (b := b) (c := c) (s := s) (S := S) (by omega)
  rcases kind_cases k f a b c s with ⟨h1, h2⟩ | ⟨h1, h2⟩ | ⟨h1, h2⟩ <;> rw [h1] at e1 e2 <;> rw [h2] at e3 e4
  · simp only [↓wp_int, ↓wp_str, ↓wp_bl, ↓wp_non, ↓wp_gint, ↓wp_gcls, ↓wp_var, ↓wp_tup, ↓wp_lst, ↓wp_bin, ↓wp_neg, ↓wp_cmp, ↓wp_isc, ↓wp_chain, ↓wp_and, ↓wp_or, ↓wp_and1, ↓wp_and2, ↓wp_or1, ↓wp_or2, ↓wp_not, ↓wp_ifx, ↓wp_idx, ↓wp_slc, ↓wp_rev, ↓wp_fld, ↓wp_call, ↓wp_callk, ↓wp_new, ↓wp_bi, ↓wp_lrg, ↓wp_isi, ↓wp_mt, ↓wp_comp, ↓wp_gal, ↓wp_evP0, ↓wp_evP1, ↓wp_nil, ↓wp_cons, ↓wp_nilB, ↓wp_consB, ↓wp_ts0, ↓wp_ts1, ↓wo_lst, ↓wo_comp, ↓wo_lrg, ↓wo_list, ↓wo_sorted, ↓wo_rev, ↓wo_add, ↓wo_mul, ↓wi_seq, ↓wi_rng, ↓wi_enum, ↓wt_nm, ↓wt_tup, ↓wt_nil, ↓wt_cons, ↓wt_sub, ↓wt_fld, ↓ws_nil, ↓ws_asg, ↓ws_aown, ↓ws_par, ↓ws_expr, ↓ws_ret, ↓ws_retn, ↓ws_pas, ↓ws_doc, ↓ws_brk, ↓ws_cnt, ↓ws_iteN, ↓ws_ite, ↓ws_for, ↓ws_whl, mtX_popS, eq_nils, ne_nils, pk_nil', pk_cons', Option.toList_some, Option.toList_none, bin_powI, at_ibI, slcT_to, slcL_to, List.take_succ_cons, List.take_zero, Int.reduceNeg, Int.zero_add, setX_m1, wp_setFld, setFS_new, fld_ins, wp_compF, wp_forF, wipe_nil, wipe_cons, restore_nil, restore_cons, wip_nil, wip_cons, wipS_emp, wipS_val, tok_none, rng1, rng2, rng3, rngL1, rngL2, tok_lst, tok_tup, forK_nx, forK_ct, forK_bk, forK_rt, Bool.and_self, Bool.and_true, Bool.true_and, Int.reduceToNat, Int.toNat_natCast, Int.reduceSub, Nat.reduceSub, nums_len, wp_ok, wp_bad, wp_bind, wp_ret, wp_some, wp_none, wp_ifS, wp_ifSm, wp_ifSb, Bool.false_eq_true, wp_if, br_true, br_false, br_dec, br_not, cbr_true, cbr_false, cbr_dec, cbr_not, wp_ofRC, wp_blk, cp_ok, endK_rt, endK_nx, orc_n, orc_s, look_zero, look_succ, has_zero, has_succ, set_zero, set_succ, getS_val, getS_ownT, getS_ownF, getS_owniT, getS_owniF, view_slt, view_ref, viewS_own, viewS_owni, viewO_lst, viewO_ins, view_int, view_bl, view_str, view_non, view_tup, view_lst, view_ins, go_nx, go_rt, go_bk, go_ct, bin_addI, bin_subI, bin_mulI, bin_fdivI, bin_modI, bin_addT, bin_addL, cmp_eqI, cmp_neI, cmp_ltI, cmp_leI, cmp_gtI, cmp_geI, idx_lst, idx_tup, at_0, at_1, at_2, at_3, at_4, at_5, at_m1, len_lst, len_tup, bi_int, bi_abs, bi_intb, bi_max2, bi_min2, bi_min3, bi_tupL, bi_tupT, bi_lstL, bi_lstT, seq_lst, seq_tup, lst_lst, bl_bl, int_int, isN_int, isN_bl, isN_non, isN_tup, isN_lst, isN_str, isN_ins, isB_int, isB_tup, isB_non, isB_str, isB_tt, isB_tf, isB_ft, isB_ff, lix_n, lix_t, lix_f, Int.cast_ofNat_Int, in_lst, in_tup, nin_lst, nin_tup, srt_lst, srt_tup, eq_tups, isT_int, isT_tup, isT_lst, isT_str, isT_bl, isT_non, isT_ins, isT_nil, putS_own, putR_lst, wp_putS, wp_putR, wp_setSub, setX_0, setX_1, setX_2, setX_3, wp_mtD, mtX_pop, mtX_app, Option.map_some, Option.map_none, Option.bind_some, Option.bind_none, List.map_cons, List.map_nil, List.append_nil, List.nil_append, List.cons_append, List.replicate_succ, List.replicate_zero, true_and, and_true, if_true, if_false, ne_eq, not_true_eq_false, not_false_eq_true, Bool.not_true, Bool.not_false, forall_const, forall_false, implies_true, false_implies, true_implies, reduceCtorEq, List.set_set, mulOk_l, mulOk_r, Int.reduceEq, Int.reduceLT, Int.reduceLE, na_lit, na_neg, Nat.reduceLT, Nat.reduceLeDiff, and_self, List.length_cons, List.length_nil, Tgs.len, Nat.reduceAdd, Nat.reduceEqDiff, eq_self, decide_true, decide_false, List.getElem?_cons_zero, List.getElem?_cons_succ, Bool.and_false, Bool.false_and, Bool.or_true, Bool.or_false, Bool.true_or, Bool.false_or, and_assoc, e1, e2, e3, e4, like_int (q := q - 1) (by omega), like_non (q := q - 1) (by omega)]
  · simp only [↓wp_int, ↓wp_str, ↓wp_bl, ↓wp_non, ↓wp_gint, ↓wp_gcls, ↓wp_var, ↓wp_tup, ↓wp_lst, ↓wp_bin, ↓wp_neg, ↓wp_cmp, ↓wp_isc, ↓wp_chain, ↓wp_and, ↓wp_or, ↓wp_and1, ↓wp_and2, ↓wp_or1, ↓wp_or2, ↓wp_not, ↓wp_ifx, ↓wp_idx, ↓wp_slc, ↓wp_rev, ↓wp_fld, ↓wp_call, ↓wp_callk, ↓wp_new, ↓wp_bi, ↓wp_lrg, ↓wp_isi, ↓wp_mt, ↓wp_comp, ↓wp_gal, ↓wp_evP0, ↓wp_evP1, ↓wp_nil, ↓wp_cons, ↓wp_nilB, ↓wp_consB, ↓wp_ts0, ↓wp_ts1, ↓wo_lst, ↓wo_comp, ↓wo_lrg, ↓wo_list, ↓wo_sorted, ↓wo_rev, ↓wo_add, ↓wo_mul, ↓wi_seq, ↓wi_rng, ↓wi_enum, ↓wt_nm, ↓wt_tup, ↓wt_nil, ↓wt_cons, ↓wt_sub, ↓wt_fld, ↓ws_nil, ↓ws_asg, ↓ws_aown, ↓ws_par, ↓ws_expr, ↓ws_ret, ↓ws_retn, ↓ws_pas, ↓ws_doc, ↓ws_brk, ↓ws_cnt, ↓ws_iteN, ↓ws_ite, ↓ws_for, ↓ws_whl, mtX_popS, eq_nils, ne_nils, pk_nil', pk_cons', Option.toList_some, Option.toList_none, bin_powI, at_ibI, slcT_to, slcL_to, List.take_succ_cons, List.take_zero, Int.reduceNeg, Int.zero_add, setX_m1, wp_setFld, setFS_new, fld_ins, wp_compF, wp_forF, wipe_nil, wipe_cons, restore_nil, restore_cons, wip_nil, wip_cons, wipS_emp, wipS_val, tok_none, rng1, rng2, rng3, rngL1, rngL2, tok_lst, tok_tup, forK_nx, forK_ct, forK_bk, forK_rt, Bool.and_self, Bool.and_true, Bool.true_and, Int.reduceToNat, Int.toNat_natCast, Int.reduceSub, Nat.reduceSub, nums_len, wp_ok, wp_bad, wp_bind, wp_ret, wp_some, wp_none, wp_ifS, wp_ifSm, wp_ifSb, Bool.false_eq_true, wp_if, br_true, br_false, br_dec, br_not, cbr_true, cbr_false, cbr_dec, cbr_not, wp_ofRC, wp_blk, cp_ok, endK_rt, endK_nx, orc_n, orc_s, look_zero, look_succ, has_zero, has_succ, set_zero, set_succ, getS_val, getS_ownT, getS_ownF, getS_owniT, getS_owniF, view_slt, view_ref, viewS_own, viewS_owni, viewO_lst, viewO_ins, view_int, view_bl, view_str, view_non, view_tup, view_lst, view_ins, go_nx, go_rt, go_bk, go_ct, bin_addI, bin_subI, bin_mulI, bin_fdivI, bin_modI, bin_addT, bin_addL, cmp_eqI, cmp_neI, cmp_ltI, cmp_leI, cmp_gtI, cmp_geI, idx_lst, idx_tup, at_0, at_1, at_2, at_3, at_4, at_5, at_m1, len_lst, len_tup, bi_int, bi_abs, bi_intb, bi_max2, bi_min2, bi_min3, bi_tupL, bi_tupT, bi_lstL, bi_lstT, seq_lst, seq_tup, lst_lst, bl_bl, int_int, isN_int, isN_bl, isN_non, isN_tup, isN_lst, isN_str, isN_ins, isB_int, isB_tup, isB_non, isB_str, isB_tt, isB_tf, isB_ft, isB_ff, lix_n, lix_t, lix_f, Int.cast_ofNat_Int, in_lst, in_tup, nin_lst, nin_tup, srt_lst, srt_tup, eq_tups, isT_int, isT_tup, isT_lst, isT_str, isT_bl, isT_non, isT_ins, isT_nil, putS_own, putR_lst, wp_putS, wp_putR, wp_setSub, setX_0, setX_1, setX_2, setX_3, wp_mtD, mtX_pop, mtX_app, Option.map_some, Option.map_none, Option.bind_some, Option.bind_none, List.map_cons, List.map_nil, List.append_nil, List.nil_append, List.cons_append, List.replicate_succ, List.replicate_zero, true_and, and_true, if_true, if_false, ne_eq, not_true_eq_false, not_false_eq_true, Bool.not_true, Bool.not_false, forall_const, forall_false, implies_true, false_implies, true_implies, reduceCtorEq, List.set_set, mulOk_l, mulOk_r, Int.reduceEq, Int.reduceLT, Int.reduceLE, na_lit, na_neg, Nat.reduceLT, Nat.reduceLeDiff, and_self, List.length_cons, List.length_nil, Tgs.len, Nat.reduceAdd, Nat.reduceEqDiff, eq_self, decide_true, decide_false, List.getElem?_cons_zero, List.getElem?_cons_succ, Bool.and_false, Bool.false_and, Bool.or_true, Bool.or_false, Bool.true_or, Bool.false_or, and_assoc, e1, e2, e3, e4, like_int (q := q - 1) (by omega), like_non (q := q - 1) (by omega)]
  · simp only [↓wp_int, ↓wp_str, ↓wp_bl, ↓wp_non, ↓wp_gint, ↓wp_gcls, ↓wp_var, ↓wp_tup, ↓wp_lst, ↓wp_bin, ↓wp_neg, ↓wp_cmp, ↓wp_isc, ↓wp_chain, ↓wp_and, ↓wp_or, ↓wp_and1, ↓wp_and2, ↓wp_or1, ↓wp_or2, ↓wp_not, ↓wp_ifx, ↓wp_idx, ↓wp_slc, ↓wp_rev, ↓wp_fld, ↓wp_call, ↓wp_callk, ↓wp_new, ↓wp_bi, ↓wp_lrg, ↓wp_isi, ↓wp_mt, ↓wp_comp, ↓wp_gal, ↓wp_evP0, ↓wp_evP1, ↓wp_nil, ↓wp_cons, ↓wp_nilB, ↓wp_consB, ↓wp_ts0, ↓wp_ts1, ↓wo_lst, ↓wo_comp, ↓wo_lrg, ↓wo_list, ↓wo_sorted, ↓wo_rev, ↓wo_add, ↓wo_mul, ↓wi_seq, ↓wi_rng, ↓wi_enum, ↓wt_nm, ↓wt_tup, ↓wt_nil, ↓wt_cons, ↓wt_sub, ↓wt_fld, ↓ws_nil, ↓ws_asg, ↓ws_aown, ↓ws_par, ↓ws_expr, ↓ws_ret, ↓ws_retn, ↓ws_pas, ↓ws_doc, ↓ws_brk, ↓ws_cnt, ↓ws_iteN, ↓ws_ite, ↓ws_for, ↓ws_whl, mtX_popS, eq_nils, ne_nils, pk_nil', pk_cons', Option.toList_some, Option.toList_none, bin_powI, at_ibI, slcT_to, slcL_to, List.take_succ_cons, List.take_zero, Int.reduceNeg, Int.zero_add, setX_m1, wp_setFld, setFS_new, fld_ins, wp_compF, wp_forF, wipe_nil, wipe_cons, restore_nil, restore_cons, wip_nil, wip_cons, wipS_emp, wipS_val, tok_none, rng1, rng2, rng3, rngL1, rngL2, tok_lst, tok_tup, forK_nx, forK_ct, forK_bk, forK_rt, Bool.and_self, Bool.and_true, Bool.true_and, Int.reduceToNat, Int.toNat_natCast, Int.reduceSub, Nat.reduceSub, nums_len, wp_ok, wp_bad, wp_bind, wp_ret, wp_some, wp_none, wp_ifS, wp_ifSm, wp_ifSb, Bool.false_eq_true, wp_if, br_true, br_false, br_dec, br_not, cbr_true, cbr_false, cbr_dec, cbr_not, wp_ofRC, wp_blk, cp_ok, endK_rt, endK_nx, orc_n, orc_s, look_zero, look_succ, has_zero, has_succ, set_zero, set_succ, getS_val, getS_ownT, getS_ownF, getS_owniT, getS_owniF, view_slt, view_ref, viewS_own, viewS_owni, viewO_lst, viewO_ins, view_int, view_bl, view_str, view_non, view_tup, view_lst, view_ins, go_nx, go_rt, go_bk, go_ct, bin_addI, bin_subI, bin_mulI, bin_fdivI, bin_modI, bin_addT, bin_addL, cmp_eqI, cmp_neI, cmp_ltI, cmp_leI, cmp_gtI, cmp_geI, idx_lst, idx_tup, at_0, at_1, at_2, at_3, at_4, at_5, at_m1, len_lst, len_tup, bi_int, bi_abs, bi_intb, bi_max2, bi_min2, bi_min3, bi_tupL, bi_tupT, bi_lstL, bi_lstT, seq_lst, seq_tup, lst_lst, bl_bl, int_int, isN_int, isN_bl, isN_non, isN_tup, isN_lst, isN_str, isN_ins, isB_int, isB_tup, isB_non, isB_str, isB_tt, isB_tf, isB_ft, isB_ff, lix_n, lix_t, lix_f, Int.cast_ofNat_Int, in_lst, in_tup, nin_lst, nin_tup, srt_lst, srt_tup, eq_tups, isT_int, isT_tup, isT_lst, isT_str, isT_bl, isT_non, isT_ins, isT_nil, putS_own, putR_lst, wp_putS, wp_putR, wp_setSub, setX_0, setX_1, setX_2, setX_3, wp_mtD, mtX_pop, mtX_app, Option.map_some, Option.map_none, Option.bind_some, Option.bind_none, List.map_cons, List.map_nil, List.append_nil, List.nil_append, List.cons_append, List.replicate_succ, List.replicate_zero, true_and, and_true, if_true, if_false, ne_eq, not_true_eq_false, not_false_eq_true, Bool.not_true, Bool.not_false, forall_const, forall_false, implies_true, false_implies, true_implies, reduceCtorEq, List.set_set, mulOk_l, mulOk_r, Int.reduceEq, Int.reduceLT, Int.reduceLE, na_lit, na_neg, Nat.reduceLT, Nat.reduceLeDiff, and_self, List.length_cons, List.length_nil, Tgs.len, Nat.reduceAdd, Nat.reduceEqDiff, eq_self, decide_true, decide_false, List.getElem?_cons_zero, List.getElem?_cons_succ, Bool.and_false, Bool.false_and, Bool.or_true, Bool.or_false, Bool.true_or, Bool.false_or, and_assoc, e1, e2, e3, e4, like_int (q := q - 1) (by omega), like_non (q := q - 1) (by omega)]
/-- what the drawn numbers are -/
def NumP (r : Nat) (k f : Int) (x : D) (S' : List Ob) : Prop := ∃ d a b c s : Int, x = .tup [.tup [.int k, .int f, .int d, .int a, .int b, .int c], .int s] ∧ Nums k f d a b c ∧ 0 ≤ s ∧ s ≤ k ∧ Heap' S' r
theorem numbers {q r : Nat} {k f : Int} {S : List Ob} (hb : Heap' S r) (k1 : 1 ≤ k) (k2 : k ≤ 12) (f1 : 0 ≤ f) (f2 : f ≤ k) (hk : 3 ≤ q) : CP (NumP r k f) .mk (callF T q f__law_numbers none [.ref r, .int k, .int f] S) := by
  refine cp_run T__law_numbers rfl (by omega) ?_
  simp only [↓wp_int, ↓wp_str, ↓wp_bl, ↓wp_non, ↓wp_gint, ↓wp_gcls, ↓wp_var, ↓wp_tup, ↓wp_lst, ↓wp_bin, ↓wp_neg, ↓wp_cmp, ↓wp_isc, ↓wp_chain, ↓wp_and, ↓wp_or, ↓wp_and1, ↓wp_and2, ↓wp_or1, ↓wp_or2, ↓wp_not, ↓wp_ifx, ↓wp_idx, ↓wp_slc, ↓wp_rev, ↓wp_fld, ↓wp_call, ↓wp_callk, ↓wp_new, ↓wp_bi, ↓wp_lrg, ↓wp_isi, ↓wp_mt, ↓wp_comp, ↓wp_gal, ↓wp_evP0, ↓wp_evP1, ↓wp_nil, ↓wp_cons, ↓wp_nilB, ↓wp_consB, ↓wp_ts0, ↓wp_ts1, ↓wo_lst, ↓wo_comp, ↓wo_lrg, ↓wo_list, ↓wo_sorted, ↓wo_rev, ↓wo_add, ↓wo_mul, ↓wi_seq, ↓wi_rng, ↓wi_enum, ↓wt_nm, ↓wt_tup, ↓wt_nil, ↓wt_cons, ↓wt_sub, ↓wt_fld, ↓ws_nil, ↓ws_asg, ↓ws_aown, ↓ws_par, ↓ws_expr, ↓ws_ret, ↓ws_retn, ↓ws_pas, ↓ws_doc, ↓ws_brk, ↓ws_cnt, ↓ws_iteN, ↓ws_ite, ↓ws_for, ↓ws_whl, mtX_popS, eq_nils, ne_nils, pk_nil', pk_cons', Option.toList_some, Option.toList_none, bin_powI, at_ibI, slcT_to, slcL_to, List.take_succ_cons, List.take_zero, Int.reduceNeg, Int.zero_add, setX_m1, wp_setFld, setFS_new, fld_ins, wp_compF, wp_forF, wipe_nil, wipe_cons, restore_nil, restore_cons, wip_nil, wip_cons, wipS_emp, wipS_val, tok_none, rng1, rng2, rng3, rngL1, rngL2, tok_lst, tok_tup, forK_nx, forK_ct, forK_bk, forK_rt, Bool.and_self, Bool.and_true, Bool.true_and, Int.reduceToNat, Int.toNat_natCast, Int.reduceSub, Nat.reduceSub, nums_len, wp_ok, wp_bad, wp_bind, wp_ret, wp_some, wp_none, wp_ifS, wp_ifSm, wp_ifSb, Bool.false_eq_true, wp_if, br_true, br_false, br_dec, br_not, cbr_true, cbr_false, cbr_dec, cbr_not, wp_ofRC, wp_blk, cp_ok, endK_rt, endK_nx, orc_n, orc_s, look_zero, look_succ, has_zero, has_succ, set_zero, set_succ, getS_val, getS_ownT, getS_ownF, getS_owniT, getS_owniF, view_slt, view_ref, viewS_own, viewS_owni, viewO_lst, viewO_ins, view_int, view_bl, view_str, view_non, view_tup, view_lst, view_ins, go_nx, go_rt, go_bk, go_ct, bin_addI, bin_subI, bin_mulI, bin_fdivI, bin_modI, bin_addT, bin_addL, cmp_eqI, cmp_neI, cmp_ltI, cmp_leI, cmp_gtI, cmp_geI, idx_lst, idx_tup, at_0, at_1, at_2, at_3, at_4, at_5, at_m1, len_lst, len_tup, bi_int, bi_abs, bi_intb, bi_max2, bi_min2, bi_min3, bi_tupL, bi_tupT, bi_lstL, bi_lstT, seq_lst, seq_tup, lst_lst, bl_bl, int_int, isN_int, isN_bl, isN_non, isN_tup, isN_lst, isN_str, isN_ins, isB_int, isB_tup, isB_non, isB_str, isB_tt, isB_tf, isB_ft, isB_ff, lix_n, lix_t, lix_f, Int.cast_ofNat_Int, in_lst, in_tup, nin_lst, nin_tup, srt_lst, srt_tup, eq_tups, isT_int, isT_tup, isT_lst, isT_str, isT_bl, isT_non, isT_ins, isT_nil, putS_own, putR_lst, wp_putS, wp_putR, wp_setSub, setX_0, setX_1, setX_2, setX_3, wp_mtD, mtX_pop, mtX_app, Option.map_some, Option.map_none, Option.bind_some, Option.bind_none, List.map_cons, List.map_nil, List.append_nil, List.nil_append, List.cons_append, List.replicate_succ, List.replicate_zero, true_and, and_true, if_true, if_false, ne_eq, not_true_eq_false, not_false_eq_true, Bool.not_true, Bool.not_false, forall_const, forall_false, implies_true, false_implies, true_implies, reduceCtorEq, List.set_set, mulOk_l, mulOk_r, Int.reduceEq, Int.reduceLT, Int.reduceLE, na_lit, na_neg, Nat.reduceLT, Nat.reduceLeDiff, and_self, List.length_cons, List.length_nil, Tgs.len, Nat.reduceAdd, Nat.reduceEqDiff, eq_self, decide_true, decide_false, List.getElem?_cons_zero, List.getElem?_cons_succ, Bool.and_false, Bool.false_and, Bool.or_true, Bool.or_false, Bool.true_or, Bool.false_or, and_assoc, fn__law_numbers, b__law_numbers]
  refine cp_mono (draw hb (by omega) (by omega) (by omega)) ?_
  rintro _ S1 ⟨s, rfl, s0, s1, b1⟩
  simp only [↓wp_int, ↓wp_str, ↓wp_bl, ↓wp_non, ↓wp_gint, ↓wp_gcls, ↓wp_var, ↓wp_tup, ↓wp_lst, ↓wp_bin, ↓wp_neg, ↓wp_cmp, ↓wp_isc, ↓wp_chain, ↓wp_and, ↓wp_or, ↓wp_and1, ↓wp_and2, ↓wp_or1, ↓wp_or2, ↓wp_not, ↓wp_ifx, ↓wp_idx, ↓wp_slc, ↓wp_rev, ↓wp_fld, ↓wp_call, ↓wp_callk, ↓wp_new, ↓wp_bi, ↓wp_lrg, ↓wp_isi, ↓wp_mt, ↓wp_comp, ↓wp_gal, ↓wp_evP0, ↓wp_evP1, ↓wp_nil, ↓wp_cons, ↓wp_nilB, ↓wp_consB, ↓wp_ts0, ↓wp_ts1, ↓wo_lst, ↓wo_comp, ↓wo_lrg, ↓wo_list, ↓wo_sorted, ↓wo_rev, ↓wo_add, ↓wo_mul, ↓wi_seq, ↓wi_rng, ↓wi_enum, ↓wt_nm, ↓wt_tup, ↓wt_nil, ↓wt_cons, ↓wt_sub, ↓wt_fld, ↓ws_nil, ↓ws_asg, ↓ws_aown, ↓ws_par, ↓ws_expr, ↓ws_ret, ↓ws_retn, ↓ws_pas, ↓ws_doc, ↓ws_brk, ↓ws_cnt, ↓ws_iteN, ↓ws_ite, ↓ws_for, ↓ws_whl, mtX_popS, eq_nils, ne_nils, pk_nil', pk_cons', Option.toList_some, Option.toList_none, bin_powI, at_ibI, slcT_to, slcL_to, List.take_succ_cons, List.take_zero, Int.reduceNeg, Int.zero_add, setX_m1, wp_setFld, setFS_new, fld_ins, wp_compF, wp_forF, wipe_nil, wipe_cons, restore_nil, restore_cons, wip_nil, wip_cons, wipS_emp, wipS_val, tok_none, rng1, rng2, rng3, rngL1, rngL2, tok_lst, tok_tup, forK_nx, forK_ct, forK_bk, forK_rt, Bool.and_self, Bool.and_true, Bool.true_and, Int.reduceToNat, Int.toNat_natCast, Int.reduceSub, Nat.reduceSub, nums_len, wp_ok, wp_bad, wp_bind, wp_ret, wp_some, wp_none, wp_ifS, wp_ifSm, wp_ifSb, Bool.false_eq_true, wp_if, br_true, br_false, br_dec, br_not, cbr_true, cbr_false, cbr_dec, cbr_not, wp_ofRC, wp_blk, cp_ok, endK_rt, endK_nx, orc_n, orc_s, look_zero, look_succ, has_zero, has_succ, set_zero, set_succ, getS_val, getS_ownT, getS_ownF, getS_owniT, getS_owniF, view_slt, view_ref, viewS_own, viewS_owni, viewO_lst, viewO_ins, view_int, view_bl, view_str, view_non, view_tup, view_lst, view_ins, go_nx, go_rt, go_bk, go_ct, bin_addI, bin_subI, bin_mulI, bin_fdivI, bin_modI, bin_addT, bin_addL, cmp_eqI, cmp_neI, cmp_ltI, cmp_leI, cmp_gtI, cmp_geI, idx_lst, idx_tup, at_0, at_1, at_2, at_3, at_4, at_5, at_m1, len_lst, len_tup, bi_int, bi_abs, bi_intb, bi_max2, bi_min2, bi_min3, bi_tupL, bi_tupT, bi_lstL, bi_lstT, seq_lst, seq_tup, lst_lst, bl_bl, int_int, isN_int, isN_bl, isN_non, isN_tup, isN_lst, isN_str, isN_ins, isB_int, isB_tup, isB_non, isB_str, isB_tt, isB_tf, isB_ft, isB_ff, lix_n, lix_t, lix_f, Int.cast_ofNat_Int, in_lst, in_tup, nin_lst, nin_tup, srt_lst, srt_tup, eq_tups, isT_int, isT_tup, isT_lst, isT_str, isT_bl, isT_non, isT_ins, isT_nil, putS_own, putR_lst, wp_putS, wp_putR, wp_setSub, setX_0, setX_1, setX_2, setX_3, wp_mtD, mtX_pop, mtX_app, Option.map_some, Option.map_none, Option.bind_some, Option.bind_none, List.map_cons, List.map_nil, List.append_nil, List.nil_append, List.cons_append, List.replicate_succ, List.replicate_zero, true_and, and_true, if_true, if_false, ne_eq, not_true_eq_false, not_false_eq_true, Bool.not_true, Bool.not_false, forall_const, forall_false, implies_true, false_implies, true_implies, reduceCtorEq, List.set_set, mulOk_l, mulOk_r, Int.reduceEq, Int.reduceLT, Int.reduceLE, na_lit, na_neg, Nat.reduceLT, Nat.reduceLeDiff, and_self, List.length_cons, List.length_nil, Tgs.len, Nat.reduceAdd, Nat.reduceEqDiff, eq_self, decide_true, decide_false, List.getElem?_cons_zero, List.getElem?_cons_succ, Bool.and_false, Bool.false_and, Bool.or_true, Bool.or_false, Bool.true_or, Bool.false_or, and_assoc]
  refine cp_mono (draw b1 (by omega) (by omega) (by omega)) ?_
  rintro _ S2 ⟨u, rfl, u0, u1, b2⟩
  simp only [↓wp_int, ↓wp_str, ↓wp_bl, ↓wp_non, ↓wp_gint, ↓wp_gcls, ↓wp_var, ↓wp_tup, ↓wp_lst, ↓wp_bin, ↓wp_neg, ↓wp_cmp, ↓wp_isc, ↓wp_chain, ↓wp_and, ↓wp_or, ↓wp_and1, ↓wp_and2, ↓wp_or1, ↓wp_or2, ↓wp_not, ↓wp_ifx, ↓wp_idx, ↓wp_slc, ↓wp_rev, ↓wp_fld, ↓wp_call, ↓wp_callk, ↓wp_new, ↓wp_bi, ↓wp_lrg, ↓wp_isi, ↓wp_mt, ↓wp_comp, ↓wp_gal, ↓wp_evP0, ↓wp_evP1, ↓wp_nil, ↓wp_cons, ↓wp_nilB, ↓wp_consB, ↓wp_ts0, ↓wp_ts1, ↓wo_lst, ↓wo_comp, ↓wo_lrg, ↓wo_list, ↓wo_sorted, ↓wo_rev, ↓wo_add, ↓wo_mul, ↓wi_seq, ↓wi_rng, ↓wi_enum, ↓wt_nm, ↓wt_tup, ↓wt_nil, ↓wt_cons, ↓wt_sub, ↓wt_fld, ↓ws_nil, ↓ws_asg, ↓ws_aown, ↓ws_par, ↓ws_expr, ↓ws_ret, ↓ws_retn, ↓ws_pas, ↓ws_doc, ↓ws_brk, ↓ws_cnt, ↓ws_iteN, ↓ws_ite, ↓ws_for, ↓ws_whl, mtX_popS, eq_nils, ne_nils, pk_nil', pk_cons', Option.toList_some, Option.toList_none, bin_powI, at_ibI, slcT_to, slcL_to, List.take_succ_cons, List.take_zero, Int.reduceNeg, Int.zero_add, setX_m1, wp_setFld, setFS_new, fld_ins, wp_compF, wp_forF, wipe_nil, wipe_cons, restore_nil, restore_cons, wip_nil, wip_cons, wipS_emp, wipS_val, tok_none, rng1, rng2, rng3, rngL1, rngL2, tok_lst, tok_tup, forK_nx, forK_ct, forK_bk, forK_rt, Bool.and_self, Bool.and_true, Bool.true_and, Int.reduceToNat, Int.toNat_natCast, Int.reduceSub, Nat.reduceSub, nums_len, wp_ok, wp_bad, wp_bind, wp_ret, wp_some, wp_none, wp_ifS, wp_ifSm, wp_ifSb, Bool.false_eq_true, wp_if, br_true, br_false, br_dec, br_not, cbr_true, cbr_false, cbr_dec, cbr_not, wp_ofRC, wp_blk, cp_ok, endK_rt, endK_nx, orc_n, orc_s, look_zero, look_succ, has_zero, has_succ, set_zero, set_succ, getS_val, getS_ownT, getS_ownF, getS_owniT, getS_owniF, view_slt, view_ref, viewS_own, viewS_owni, viewO_lst, viewO_ins, view_int, view_bl, view_str, view_non, view_tup, view_lst, view_ins, go_nx, go_rt, go_bk, go_ct, bin_addI, bin_subI, bin_mulI, bin_fdivI, bin_modI, bin_addT, bin_addL, cmp_eqI, cmp_neI, cmp_ltI, cmp_leI, cmp_gtI, cmp_geI, idx_lst, idx_tup, at_0, at_1, at_2, at_3, at_4, at_5, at_m1, len_lst, len_tup, bi_int, bi_abs, bi_intb, bi_max2, bi_min2, bi_min3, bi_tupL, bi_tupT, bi_lstL, bi_lstT, seq_lst, seq_tup, lst_lst, bl_bl, int_int, isN_int, isN_bl, isN_non, isN_tup, isN_lst, isN_str, isN_ins, isB_int, isB_tup, isB_non, isB_str, isB_tt, isB_tf, isB_ft, isB_ff, lix_n, lix_t, lix_f, Int.cast_ofNat_Int, in_lst, in_tup, nin_lst, nin_tup, srt_lst, srt_tup, eq_tups, isT_int, isT_tup, isT_lst, isT_str, isT_bl, isT_non, isT_ins, isT_nil, putS_own, putR_lst, wp_putS, wp_putR, wp_setSub, setX_0, setX_1, setX_2, setX_3, wp_mtD, mtX_pop, mtX_app, Option.map_some, Option.map_none, Option.bind_some, Option.bind_none, List.map_cons, List.map_nil, List.append_nil, List.nil_append, List.cons_append, List.replicate_succ, List.replicate_zero, true_and, and_true, if_true, if_false, ne_eq, not_true_eq_false, not_false_eq_true, Bool.not_true, Bool.not_false, forall_const, forall_false, implies_true, false_implies, true_implies, reduceCtorEq, List.set_set, mulOk_l, mulOk_r, Int.reduceEq, Int.reduceLT, Int.reduceLE, na_lit, na_neg, Nat.reduceLT, Nat.reduceLeDiff, and_self, List.length_cons, List.length_nil, Tgs.len, Nat.reduceAdd, Nat.reduceEqDiff, eq_self, decide_true, decide_false, List.getElem?_cons_zero, List.getElem?_cons_succ, Bool.and_false, Bool.false_and, Bool.or_true, Bool.or_false, Bool.true_or, Bool.false_or, and_assoc]
  refine cp_mono (pick b2 (by simp) (by simp) (by omega)) ?_
  rintro x S3 ⟨hx, b3⟩
  obtain ⟨v, rfl⟩ : ∃ v : Int, x = .int v := by
    simp only [List.mem_cons, List.not_mem_nil, or_false] at hx
    rcases hx with rfl | rfl | rfl | rfl <;> exact ⟨_, rfl⟩
  simp only [↓wp_int, ↓wp_str, ↓wp_bl, ↓wp_non, ↓wp_gint, ↓wp_gcls, ↓wp_var, ↓wp_tup, ↓wp_lst, ↓wp_bin, ↓wp_neg, ↓wp_cmp, ↓wp_isc, ↓wp_chain, ↓wp_and, ↓wp_or, ↓wp_and1, ↓wp_and2, ↓wp_or1, ↓wp_or2, ↓wp_not, ↓wp_ifx, ↓wp_idx, ↓wp_slc, ↓wp_rev, ↓wp_fld, ↓wp_call, ↓wp_callk, ↓wp_new, ↓wp_bi, ↓wp_lrg, ↓wp_isi, ↓wp_mt, ↓wp_comp, ↓wp_gal, ↓wp_evP0, ↓wp_evP1, ↓wp_nil, ↓wp_cons, ↓wp_nilB, ↓wp_consB, ↓wp_ts0, ↓wp_ts1, ↓wo_lst, ↓wo_comp, ↓wo_lrg, ↓wo_list, ↓wo_sorted, ↓wo_rev, ↓wo_add, ↓wo_mul, ↓wi_seq, ↓wi_rng, ↓wi_enum, ↓wt_nm, ↓wt_tup, ↓wt_nil, ↓wt_cons, ↓wt_sub, ↓wt_fld, ↓ws_nil, ↓ws_asg, ↓ws_aown, ↓ws_par, ↓ws_expr, ↓ws_ret, ↓ws_retn, ↓ws_pas, ↓ws_doc, ↓ws_brk, ↓ws_cnt, ↓ws_iteN, ↓ws_ite, ↓ws_for, ↓ws_whl, mtX_popS, eq_nils, ne_nils, pk_nil', pk_cons', Option.toList_some, Option.toList_none, bin_powI, at_ibI, slcT_to, slcL_to, List.take_succ_cons, List.take_zero, Int.reduceNeg, Int.zero_add, setX_m1, wp_setFld, setFS_new, fld_ins, wp_compF, wp_forF, wipe_nil, wipe_cons, restore_nil, restore_cons, wip_nil, wip_cons, wipS_emp, wipS_val, tok_none, rng1, rng2, rng3, rngL1, rngL2, tok_lst, tok_tup, forK_nx, forK_ct, forK_bk, forK_rt, Bool.and_self, Bool.and_true, Bool.true_and, Int.reduceToNat, Int.toNat_natCast, Int.reduceSub, Nat.reduceSub, nums_len, wp_ok, wp_bad, wp_bind, wp_ret, wp_some, wp_none, wp_ifS, wp_ifSm, wp_ifSb, Bool.false_eq_true, wp_if, br_true, br_false, br_dec, br_not, cbr_true, cbr_false, cbr_dec, cbr_not, wp_ofRC, wp_blk, cp_ok, endK_rt, endK_nx, orc_n, orc_s, look_zero, look_succ, has_zero, has_succ, set_zero, set_succ, getS_val, getS_ownT, getS_ownF, getS_owniT, getS_owniF, view_slt, view_ref, viewS_own, viewS_owni, viewO_lst, viewO_ins, view_int, view_bl, view_str, view_non, view_tup, view_lst, view_ins, go_nx, go_rt, go_bk, go_ct, bin_addI, bin_subI, bin_mulI, bin_fdivI, bin_modI, bin_addT, bin_addL, cmp_eqI, cmp_neI, cmp_ltI, cmp_leI, cmp_gtI, cmp_geI, idx_lst, idx_tup, at_0, at_1, at_2, at_3, at_4, at_5, at_m1, len_lst, len_tup, bi_int, bi_abs, bi_intb, bi_max2, bi_min2, bi_min3, bi_tupL, bi_tupT, bi_lstL, bi_lstT, seq_lst, seq_tup, lst_lst, bl_bl, int_int, isN_int, isN_bl, isN_non, isN_tup, isN_lst, isN_str, isN_ins, isB_int, isB_tup, isB_non, isB_str, isB_tt, isB_tf, isB_ft, isB_ff, lix_n, lix_t, lix_f, Int.cast_ofNat_Int, in_lst, in_tup, nin_lst, nin_tup, srt_lst, srt_tup, eq_tups, isT_int, isT_tup, isT_lst, isT_str, isT_bl, isT_non, isT_ins, isT_nil, putS_own, putR_lst, wp_putS, wp_putR, wp_setSub, setX_0, setX_1, setX_2, setX_3, wp_mtD, mtX_pop, mtX_app, Option.map_some, Option.map_none, Option.bind_some, Option.bind_none, List.map_cons, List.map_nil, List.append_nil, List.nil_append, List.cons_append, List.replicate_succ, List.replicate_zero, true_and, and_true, if_true, if_false, ne_eq, not_true_eq_false, not_false_eq_true, Bool.not_true, Bool.not_false, forall_const, forall_false, implies_true, false_implies, true_implies, reduceCtorEq, List.set_set, mulOk_l, mulOk_r, Int.reduceEq, Int.reduceLT, Int.reduceLE, na_lit, na_neg, Nat.reduceLT, Nat.reduceLeDiff, and_self, List.length_cons, List.length_nil, Tgs.len, Nat.reduceAdd, Nat.reduceEqDiff, eq_self, decide_true, decide_false, List.getElem?_cons_zero, List.getElem?_cons_succ, Bool.and_false, Bool.false_and, Bool.or_true, Bool.or_false, Bool.true_or, Bool.false_or, and_assoc]
  refine cp_mono (draw b3 (by omega) (by omega) (by omega)) ?_
  rintro _ S4 ⟨w, rfl, w0, w1, b4⟩
  simp only [↓wp_int, ↓wp_str, ↓wp_bl, ↓wp_non, ↓wp_gint, ↓wp_gcls, ↓wp_var, ↓wp_tup, ↓wp_lst, ↓wp_bin, ↓wp_neg, ↓wp_cmp, ↓wp_isc, ↓wp_chain, ↓wp_and, ↓wp_or, ↓wp_and1, ↓wp_and2, ↓wp_or1, ↓wp_or2, ↓wp_not, ↓wp_ifx, ↓wp_idx, ↓wp_slc, ↓wp_rev, ↓wp_fld, ↓wp_call, ↓wp_callk, ↓wp_new, ↓wp_bi, ↓wp_lrg, ↓wp_isi, ↓wp_mt, ↓wp_comp, ↓wp_gal, ↓wp_evP0, ↓wp_evP1, ↓wp_nil, ↓wp_cons, ↓wp_nilB, ↓wp_consB, ↓wp_ts0, ↓wp_ts1, ↓wo_lst, ↓wo_comp, ↓wo_lrg, ↓wo_list, ↓wo_sorted, ↓wo_rev, ↓wo_add, ↓wo_mul, ↓wi_seq, ↓wi_rng, ↓wi_enum, ↓wt_nm, ↓wt_tup, ↓wt_nil, ↓wt_cons, ↓wt_sub, ↓wt_fld, ↓ws_nil, ↓ws_asg, ↓ws_aown, ↓ws_par, ↓ws_expr, ↓ws_ret, ↓ws_retn, ↓ws_pas, ↓ws_doc, ↓ws_brk, ↓ws_cnt, ↓ws_iteN, ↓ws_ite, ↓ws_for, ↓ws_whl, mtX_popS, eq_nils, ne_nils, pk_nil', pk_cons', Option.toList_some, Option.toList_none, bin_powI, at_ibI, slcT_to, slcL_to, List.take_succ_cons, List.take_zero, Int.reduceNeg, Int.zero_add, setX_m1, wp_setFld, setFS_new, fld_ins, wp_compF, wp_forF, wipe_nil, wipe_cons, restore_nil, restore_cons, wip_nil, wip_cons, wipS_emp, wipS_val, tok_none, rng1, rng2, rng3, rngL1, rngL2, tok_lst, tok_tup, forK_nx, forK_ct, forK_bk, forK_rt, Bool.and_self, Bool.and_true, Bool.true_and, Int.reduceToNat, Int.toNat_natCast, Int.reduceSub, Nat.reduceSub, nums_len, wp_ok, wp_bad, wp_bind, wp_ret, wp_some, wp_none, wp_ifS, wp_ifSm, wp_ifSb, Bool.false_eq_true, wp_if, br_true, br_false, br_dec, br_not, cbr_true, cbr_false, cbr_dec, cbr_not, wp_ofRC, wp_blk, cp_ok, endK_rt, endK_nx, orc_n, orc_s, look_zero, look_succ, has_zero, has_succ, set_zero, set_succ, getS_val, getS_ownT, getS_ownF, getS_owniT, getS_owniF, view_slt, view_ref, viewS_own, viewS_owni, viewO_lst, viewO_ins, view_int, view_bl, view_str, view_non, view_tup, view_lst, view_ins, go_nx, go_rt, go_bk, go_ct, bin_addI, bin_subI, bin_mulI, bin_fdivI, bin_modI, bin_addT, bin_addL, cmp_eqI, cmp_neI, cmp_ltI, cmp_leI, cmp_gtI, cmp_geI, idx_lst, idx_tup, at_0, at_1, at_2, at_3, at_4, at_5, at_m1, len_lst, len_tup, bi_int, bi_abs, bi_intb, bi_max2, bi_min2, bi_min3, bi_tupL, bi_tupT, bi_lstL, bi_lstT, seq_lst, seq_tup, lst_lst, bl_bl, int_int, isN_int, isN_bl, isN_non, isN_tup, isN_lst, isN_str, isN_ins, isB_int, isB_tup, isB_non, isB_str, isB_tt, isB_tf, isB_ft, isB_ff, lix_n, lix_t, lix_f, Int.cast_ofNat_Int, in_lst, in_tup, nin_lst, nin_tup, srt_lst, srt_tup, eq_tups, isT_int, isT_tup, isT_lst, isT_str, isT_bl, isT_non, isT_ins, isT_nil, putS_own, putR_lst, wp_putS, wp_putR, wp_setSub, setX_0, setX_1, setX_2, setX_3, wp_mtD, mtX_pop, mtX_app, Option.map_some, Option.map_none, Option.bind_some, Option.bind_none, List.map_cons, List.map_nil, List.append_nil, List.nil_append, List.cons_append, List.replicate_succ, List.replicate_zero, true_and, and_true, if_true, if_false, ne_eq, not_true_eq_false, not_false_eq_true, Bool.not_true, Bool.not_false, forall_const, forall_false, implies_true, false_implies, true_implies, reduceCtorEq, List.set_set, mulOk_l, mulOk_r, Int.reduceEq, Int.reduceLT, Int.reduceLE, na_lit, na_neg, Nat.reduceLT, Nat.reduceLeDiff, and_self, List.length_cons, List.length_nil, Tgs.len, Nat.reduceAdd, Nat.reduceEqDiff, eq_self, decide_true, decide_false, List.getElem?_cons_zero, List.getElem?_cons_succ, Bool.and_false, Bool.false_and, Bool.or_true, Bool.or_false, Bool.true_or, Bool.false_or, and_assoc]
  refine cp_mono (draw b4 (by omega) (by omega) (by omega)) ?_
  rintro _ S5 ⟨u2, rfl, u20, u21, b5⟩
  simp only [↓wp_int, ↓wp_str, ↓wp_bl, ↓wp_non, ↓wp_gint, ↓wp_gcls, ↓wp_var, ↓wp_tup, ↓wp_lst, ↓wp_bin, ↓wp_neg, ↓wp_cmp, ↓wp_isc, ↓wp_chain, ↓wp_and, ↓wp_or, ↓wp_and1, ↓wp_and2, ↓wp_or1, ↓wp_or2, ↓wp_not, ↓wp_ifx, ↓wp_idx, ↓wp_slc, ↓wp_rev, ↓wp_fld, ↓wp_call, ↓wp_callk, ↓wp_new, ↓wp_bi, ↓wp_lrg, ↓wp_isi, ↓wp_mt, ↓wp_comp, ↓wp_gal, ↓wp_evP0, ↓wp_evP1, ↓wp_nil, ↓wp_cons, ↓wp_nilB, ↓wp_consB, ↓wp_ts0, ↓wp_ts1, ↓wo_lst, ↓wo_comp, ↓wo_lrg, ↓wo_list, ↓wo_sorted, ↓wo_rev, ↓wo_add, ↓wo_mul, ↓wi_seq, ↓wi_rng, ↓wi_enum, ↓wt_nm, ↓wt_tup, ↓wt_nil, ↓wt_cons, ↓wt_sub, ↓wt_fld, ↓ws_nil, ↓ws_asg, ↓ws_aown, ↓ws_par, ↓ws_expr, ↓ws_ret, ↓ws_retn, ↓ws_pas, ↓ws_doc, ↓ws_brk, ↓ws_cnt, ↓ws_iteN, ↓ws_ite, ↓ws_for, ↓ws_whl, mtX_popS, eq_nils, ne_nils, pk_nil', pk_cons', Option.toList_some, Option.toList_none, bin_powI, at_ibI, slcT_to, slcL_to, List.take_succ_cons, List.take_zero, Int.reduceNeg, Int.zero_add, setX_m1, wp_setFld, setFS_new, fld_ins, wp_compF, wp_forF, wipe_nil, wipe_cons, restore_nil, restore_cons, wip_nil, wip_cons, wipS_emp, wipS_val, tok_none, rng1, rng2, rng3, rngL1, rngL2, tok_lst, tok_tup, forK_nx, forK_ct, forK_bk, forK_rt, Bool.and_self, Bool.and_true, Bool.true_and, Int.reduceToNat, Int.toNat_natCast, Int.reduceSub, Nat.reduceSub, nums_len, wp_ok, wp_bad, wp_bind, wp_ret, wp_some, wp_none, wp_ifS, wp_ifSm, wp_ifSb, Bool.false_eq_true, wp_if, br_true, br_false, br_dec, br_not, cbr_true, cbr_false, cbr_dec, cbr_not, wp_ofRC, wp_blk, cp_ok, endK_rt, endK_nx, orc_n, orc_s, look_zero, look_succ, has_zero, has_succ, set_zero, set_succ, getS_val, getS_ownT, getS_ownF, getS_owniT, getS_owniF, view_slt, view_ref, viewS_own, viewS_owni, viewO_lst, viewO_ins, view_int, view_bl, view_str, view_non, view_tup, view_lst, view_ins, go_nx, go_rt, go_bk, go_ct, bin_addI, bin_subI, bin_mulI, bin_fdivI, bin_modI, bin_addT, bin_addL, cmp_eqI, cmp_neI, cmp_ltI, cmp_leI, cmp_gtI, cmp_geI, idx_lst, idx_tup, at_0, at_1, at_2, at_3, at_4, at_5, at_m1, len_lst, len_tup, bi_int, bi_abs, bi_intb, bi_max2, bi_min2, bi_min3, bi_tupL, bi_tupT, bi_lstL, bi_lstT, seq_lst, seq_tup, lst_lst, bl_bl, int_int, isN_int, isN_bl, isN_non, isN_tup, isN_lst, isN_str, isN_ins, isB_int, isB_tup, isB_non, isB_str, isB_tt, isB_tf, isB_ft, isB_ff, lix_n, lix_t, lix_f, Int.cast_ofNat_Int, in_lst, in_tup, nin_lst, nin_tup, srt_lst, srt_tup, eq_tups, isT_int, isT_tup, isT_lst, isT_str, isT_bl, isT_non, isT_ins, isT_nil, putS_own, putR_lst, wp_putS, wp_putR, wp_setSub, setX_0, setX_1, setX_2, setX_3, wp_mtD, mtX_pop, mtX_app, Option.map_some, Option.map_none, Option.bind_some, Option.bind_none, List.map_cons, List.map_nil, List.append_nil, List.nil_append, List.cons_append, List.replicate_succ, List.replicate_zero, true_and, and_true, if_true, if_false, ne_eq, not_true_eq_false, not_false_eq_true, Bool.not_true, Bool.not_false, forall_const, forall_false, implies_true, false_implies, true_implies, reduceCtorEq, List.set_set, mulOk_l, mulOk_r, Int.reduceEq, Int.reduceLT, Int.reduceLE, na_lit, na_neg, Nat.reduceLT, Nat.reduceLeDiff, and_self, List.length_cons, List.length_nil, Tgs.len, Nat.reduceAdd, Nat.reduceEqDiff, eq_self, decide_true, decide_false, List.getElem?_cons_zero, List.getElem?_cons_succ, Bool.and_false, Bool.false_and, Bool.or_true, Bool.or_false, Bool.true_or, Bool.false_or, and_assoc]
  refine cp_mono (pick b5 (by simp) (by simp) (by omega)) ?_
  rintro x S6 ⟨hx2, b6⟩
  obtain ⟨v2, rfl⟩ : ∃ v : Int, x = .int v := by
    simp only [List.mem_cons, List.not_mem_nil, or_false] at hx2
    rcases hx2 with rfl | rfl | rfl | rfl <;> exact ⟨_, rfl⟩
  simp only [↓wp_int, ↓wp_str, ↓wp_bl, ↓wp_non, ↓wp_gint, ↓wp_gcls, ↓wp_var, ↓wp_tup, ↓wp_lst, ↓wp_bin, ↓wp_neg, ↓wp_cmp, ↓wp_isc, ↓wp_chain, ↓wp_and, ↓wp_or, ↓wp_and1, ↓wp_and2, ↓wp_or1, ↓wp_or2, ↓wp_not, ↓wp_ifx, ↓wp_idx, ↓wp_slc, ↓wp_rev, ↓wp_fld, ↓wp_call, ↓wp_callk, ↓wp_new, ↓wp_bi, ↓wp_lrg, ↓wp_isi, ↓wp_mt, ↓wp_comp, ↓wp_gal, ↓wp_evP0, ↓wp_evP1, ↓wp_nil, ↓wp_cons, ↓wp_nilB, ↓wp_consB, ↓wp_ts0, ↓wp_ts1, ↓wo_lst, ↓wo_comp, ↓wo_lrg, ↓wo_list, ↓wo_sorted, ↓wo_rev, ↓wo_add, ↓wo_mul, ↓wi_seq, ↓wi_rng, ↓wi_enum, ↓wt_nm, ↓wt_tup, ↓wt_nil, ↓wt_cons, ↓wt_sub, ↓wt_fld, ↓ws_nil, ↓ws_asg, ↓ws_aown, ↓ws_par, ↓ws_expr, ↓ws_ret, ↓ws_retn, ↓ws_pas, ↓ws_doc, ↓ws_brk, ↓ws_cnt, ↓ws_iteN, ↓ws_ite, ↓ws_for, ↓ws_whl, mtX_popS, eq_nils, ne_nils, pk_nil', pk_cons', Option.toList_some, Option.toList_none, bin_powI, at_ibI, slcT_to, slcL_to, List.take_succ_cons, List.take_zero, Int.reduceNeg, Int.zero_add, setX_m1, wp_setFld, setFS_new, fld_ins, wp_compF, wp_forF, wipe_nil, wipe_cons, restore_nil, restore_cons, wip_nil, wip_cons, wipS_emp, wipS_val, tok_none, rng1, rng2, rng3, rngL1, rngL2, tok_lst, tok_tup, forK_nx, forK_ct, forK_bk, forK_rt, Bool.and_self, Bool.and_true, Bool.true_and, Int.reduceToNat, Int.toNat_natCast, Int.reduceSub, Nat.reduceSub, nums_len, wp_ok, wp_bad, wp_bind, wp_ret, wp_some, wp_none, wp_ifS, wp_ifSm, wp_ifSb, Bool.false_eq_true, wp_if, br_true, br_false, br_dec, br_not, cbr_true, cbr_false, cbr_dec, cbr_not, wp_ofRC, wp_blk, cp_ok, endK_rt, endK_nx, orc_n, orc_s, look_zero, look_succ, has_zero, has_succ, set_zero, set_succ, getS_val, getS_ownT, getS_ownF, getS_owniT, getS_owniF, view_slt, view_ref, viewS_own, viewS_owni, viewO_lst, viewO_ins, view_int, view_bl, view_str, view_non, view_tup, view_lst, view_ins, go_nx, go_rt, go_bk, go_ct, bin_addI, bin_subI, bin_mulI, bin_fdivI, bin_modI, bin_addT, bin_addL, cmp_eqI, cmp_neI, cmp_ltI, cmp_leI, cmp_gtI, cmp_geI, idx_lst, idx_tup, at_0, at_1, at_2, at_3, at_4, at_5, at_m1, len_lst, len_tup, bi_int, bi_abs, bi_intb, bi_max2, bi_min2, bi_min3, bi_tupL, bi_tupT, bi_lstL, bi_lstT, seq_lst, seq_tup, lst_lst, bl_bl, int_int, isN_int, isN_bl, isN_non, isN_tup, isN_lst, isN_str, isN_ins, isB_int, isB_tup, isB_non, isB_str, isB_tt, isB_tf, isB_ft, isB_ff, lix_n, lix_t, lix_f, Int.cast_ofNat_Int, in_lst, in_tup, nin_lst, nin_tup, srt_lst, srt_tup, eq_tups, isT_int, isT_tup, isT_lst, isT_str, isT_bl, isT_non, isT_ins, isT_nil, putS_own, putR_lst, wp_putS, wp_putR, wp_setSub, setX_0, setX_1, setX_2, setX_3, wp_mtD, mtX_pop, mtX_app, Option.map_some, Option.map_none, Option.bind_some, Option.bind_none, List.map_cons, List.map_nil, List.append_nil, List.nil_append, List.cons_append, List.replicate_succ, List.replicate_zero, true_and, and_true, if_true, if_false, ne_eq, not_true_eq_false, not_false_eq_true, Bool.not_true, Bool.not_false, forall_const, forall_false, implies_true, false_implies, true_implies, reduceCtorEq, List.set_set, mulOk_l, mulOk_r, Int.reduceEq, Int.reduceLT, Int.reduceLE, na_lit, na_neg, Nat.reduceLT, Nat.reduceLeDiff, and_self, List.length_cons, List.length_nil, Tgs.len, Nat.reduceAdd, Nat.reduceEqDiff, eq_self, decide_true, decide_false, List.getElem?_cons_zero, List.getElem?_cons_succ, Bool.and_false, Bool.false_and, Bool.or_true, Bool.or_false, Bool.true_or, Bool.false_or, and_assoc]
  refine cp_mono (draw b6 (by omega) (by omega) (by omega)) ?_
  rintro _ S7 ⟨d, rfl, d0, d1, b7⟩
  simp only [↓wp_int, ↓wp_str, ↓wp_bl, ↓wp_non, ↓wp_gint, ↓wp_gcls, ↓wp_var, ↓wp_tup, ↓wp_lst, ↓wp_bin, ↓wp_neg, ↓wp_cmp, ↓wp_isc, ↓wp_chain, ↓wp_and, ↓wp_or, ↓wp_and1, ↓wp_and2, ↓wp_or1, ↓wp_or2, ↓wp_not, ↓wp_ifx, ↓wp_idx, ↓wp_slc, ↓wp_rev, ↓wp_fld, ↓wp_call, ↓wp_callk, ↓wp_new, ↓wp_bi, ↓wp_lrg, ↓wp_isi, ↓wp_mt, ↓wp_comp, ↓wp_gal, ↓wp_evP0, ↓wp_evP1, ↓wp_nil, ↓wp_cons, ↓wp_nilB, ↓wp_consB, ↓wp_ts0, ↓wp_ts1, ↓wo_lst, ↓wo_comp, ↓wo_lrg, ↓wo_list, ↓wo_sorted, ↓wo_rev, ↓wo_add, ↓wo_mul, ↓wi_seq, ↓wi_rng, ↓wi_enum, ↓wt_nm, ↓wt_tup, ↓wt_nil, ↓wt_cons, ↓wt_sub, ↓wt_fld, ↓ws_nil, ↓ws_asg, ↓ws_aown, ↓ws_par, ↓ws_expr, ↓ws_ret, ↓ws_retn, ↓ws_pas, ↓ws_doc, ↓ws_brk, ↓ws_cnt, ↓ws_iteN, ↓ws_ite, ↓ws_for, ↓ws_whl, mtX_popS, eq_nils, ne_nils, pk_nil', pk_cons', Option.toList_some, Option.toList_none, bin_powI, at_ibI, slcT_to, slcL_to, List.take_succ_cons, List.take_zero, Int.reduceNeg, Int.zero_add, setX_m1, wp_setFld, setFS_new, fld_ins, wp_compF, wp_forF, wipe_nil, wipe_cons, restore_nil, restore_cons, wip_nil, wip_cons, wipS_emp, wipS_val, tok_none, rng1, rng2, rng3, rngL1, rngL2, tok_lst, tok_tup, forK_nx, forK_ct, forK_bk, forK_rt, Bool.and_self, Bool.and_true, Bool.true_and, Int.reduceToNat, Int.toNat_natCast, Int.reduceSub, Nat.reduceSub, nums_len, wp_ok, wp_bad, wp_bind, wp_ret, wp_some, wp_none, wp_ifS, wp_ifSm, wp_ifSb, Bool.false_eq_true, wp_if, br_true, br_false, br_dec, br_not, cbr_true, cbr_false, cbr_dec, cbr_not, wp_ofRC, wp_blk, cp_ok, endK_rt, endK_nx, orc_n, orc_s, look_zero, look_succ, has_zero, has_succ, set_zero, set_succ, getS_val, getS_ownT, getS_ownF, getS_owniT, getS_owniF, view_slt, view_ref, viewS_own, viewS_owni, viewO_lst, viewO_ins, view_int, view_bl, view_str, view_non, view_tup, view_lst, view_ins, go_nx, go_rt, go_bk, go_ct, bin_addI, bin_subI, bin_mulI, bin_fdivI, bin_modI, bin_addT, bin_addL, cmp_eqI, cmp_neI, cmp_ltI, cmp_leI, cmp_gtI, cmp_geI, idx_lst, idx_tup, at_0, at_1, at_2, at_3, at_4, at_5, at_m1, len_lst, len_tup, bi_int, bi_abs, bi_intb, bi_max2, bi_min2, bi_min3, bi_tupL, bi_tupT, bi_lstL, bi_lstT, seq_lst, seq_tup, lst_lst, bl_bl, int_int, isN_int, isN_bl, isN_non, isN_tup, isN_lst, isN_str, isN_ins, isB_int, isB_tup, isB_non, isB_str, isB_tt, isB_tf, isB_ft, isB_ff, lix_n, lix_t, lix_f, Int.cast_ofNat_Int, in_lst, in_tup, nin_lst, nin_tup, srt_lst, srt_tup, eq_tups, isT_int, isT_tup, isT_lst, isT_str, isT_bl, isT_non, isT_ins, isT_nil, putS_own, putR_lst, wp_putS, wp_putR, wp_setSub, setX_0, setX_1, setX_2, setX_3, wp_mtD, mtX_pop, mtX_app, Option.map_some, Option.map_none, Option.bind_some, Option.bind_none, List.map_cons, List.map_nil, List.append_nil, List.nil_append, List.cons_append, List.replicate_succ, List.replicate_zero, true_and, and_true, if_true, if_false, ne_eq, not_true_eq_false, not_false_eq_true, Bool.not_true, Bool.not_false, forall_const, forall_false, implies_true, false_implies, true_implies, reduceCtorEq, List.set_set, mulOk_l, mulOk_r, Int.reduceEq, Int.reduceLT, Int.reduceLE, na_lit, na_neg, Nat.reduceLT, Nat.reduceLeDiff, and_self, List.length_cons, List.length_nil, Tgs.len, Nat.reduceAdd, Nat.reduceEqDiff, eq_self, decide_true, decide_false, List.getElem?_cons_zero, List.getElem?_cons_succ, Bool.and_false, Bool.false_and, Bool.or_true, Bool.or_false, Bool.true_or, Bool.false_or, and_assoc]
  exact ⟨_, _, _, _, _, rfl, ⟨by omega, by omega, by omega, by omega, by omega, by omega, by omega, by omega, by omega, by omega, by omega, by omega⟩, by omega, by omega, b7⟩
end K33

namespace K33
open PySem Dn
/-! ### lots out of few houses -/
def grow (many : Int) (found : List (List Int)) (h : Int) : List (List Int) := found ++ (found.filter fun l => decide ((l.length : Int) < many)).map (· ++ [h])
def lotsL (H : List Int) (many : Int) : List (List Int) := (H.foldl (grow many) [[]]).filter fun l => decide ((l.length : Int) = many)
def both (a b : List Int) : Int := (a.filter fun x => decide (x ∈ b)).length
def nearC (k w u : Nat) : Bool := (lotsL (span 0 k) w).all (fun a => (lotsL (span u k) w).all fun b => decide (2 * (w : Int) - k - u ≤ both a b)) &&
  (lotsL (span 0 k) w).any (fun a => (lotsL (span u k) w).any fun b => decide (both a b ≤ max 0 (2 * (w : Int) - k - u)))
theorem near_c : ((List.range 5).all fun k => (List.range (k + 1)).all fun w => (List.range (k + 1)).all fun u => nearC k w u) = true := by decide +kernel
def less (a l : List Int) : Int := (a.filter fun x => !decide (x ∈ l)).length
def outs (H l a b : List Int) : Int := (H.filter fun x => !decide (x ∈ l) && (decide (x ∈ a) || decide (x ∈ b))).length
def farC (k f w1 w2 : Nat) : Bool := 
  (lotsL (span 0 k) (min k f : Nat)).all (fun l => (lotsL (span 0 k) w2).all fun b => decide ((w2 : Int) - f ≤ less b l) && (lotsL (span 0 k) w1).all fun a => decide (max (w1 : Int) w2 - f ≤ outs (span 0 k) l a b)) &&
  (lotsL (span 0 k) (min k f : Nat)).any (fun l => (lotsL (span 0 k) w2).any fun b => decide (less b l ≤ max 0 ((w2 : Int) - f)) && (lotsL (span 0 k) w1).any fun a => decide (outs (span 0 k) l a b ≤ max 0 (max (w1 : Int) w2 - f)))
theorem far_c : ((List.range 5).all fun k => (List.range 3).all fun f => (List.range (k + 1)).all fun w1 => (List.range (k + 1)).all fun w2 => farC k f w1 w2) = true := by decide +kernel
end K33

namespace K33
open PySem Dn
def tupN (L : List Int) : D := .tup (nums L)
theorem grow_len {m : Int} {h : Int} {F : List (List Int)} : (grow m F h).length ≤ 2 * F.length := by
  unfold grow
  rw [List.length_append, List.length_map]
  have := List.length_filter_le (fun l : List Int => decide ((l.length : Int) < m)) F
  omega
theorem grow_mem {m : Int} {h : Int} {F : List (List Int)} {n : Nat} (hF : ∀ l ∈ F, l.length ≤ n) : ∀ l ∈ grow m F h, l.length ≤ n + 1 := fun l hl => by
  unfold grow at hl
  rcases List.mem_append.mp hl with hl | hl
  · have := hF l hl; omega
  · obtain ⟨x, hx, rfl⟩ := List.mem_map.mp hl
    have := hF x (List.mem_filter.mp hx).1
    simp; omega
theorem lots {q : Nat} {H : List Int} {m : Int} {S : List Ob} (hH : H.length ≤ 12) (hk : 1 ≤ q) : callF T q f__law_lots none [.lst (nums H), .int m] S = .ok (.lst ((lotsL H m).map tupN)) S := by
  refine cp_get (t := .mk) (cp_run T__law_lots rfl (by omega) ?_)
  simp only [↓wp_int, ↓wp_str, ↓wp_bl, ↓wp_non, ↓wp_gint, ↓wp_gcls, ↓wp_var, ↓wp_tup, ↓wp_lst, ↓wp_bin, ↓wp_neg, ↓wp_cmp, ↓wp_isc, ↓wp_chain, ↓wp_and, ↓wp_or, ↓wp_and1, ↓wp_and2, ↓wp_or1, ↓wp_or2, ↓wp_not, ↓wp_ifx, ↓wp_idx, ↓wp_slc, ↓wp_rev, ↓wp_fld, ↓wp_call, ↓wp_callk, ↓wp_new, ↓wp_bi, ↓wp_lrg, ↓wp_isi, ↓wp_mt, ↓wp_comp, ↓wp_gal, ↓wp_evP0, ↓wp_evP1, ↓wp_nil, ↓wp_cons, ↓wp_nilB, ↓wp_consB, ↓wp_ts0, ↓wp_ts1, ↓wo_lst, ↓wo_comp, ↓wo_lrg, ↓wo_list, ↓wo_sorted, ↓wo_rev, ↓wo_add, ↓wo_mul, ↓wi_seq, ↓wi_rng, ↓wi_enum, ↓wt_nm, ↓wt_tup, ↓wt_nil, ↓wt_cons, ↓wt_sub, ↓wt_fld, ↓ws_nil, ↓ws_asg, ↓ws_aown, ↓ws_par, ↓ws_expr, ↓ws_ret, ↓ws_retn, ↓ws_pas, ↓ws_doc, ↓ws_brk, ↓ws_cnt, ↓ws_iteN, ↓ws_ite, ↓ws_for, ↓ws_whl, srK_rt, srK_nx, srK_ct, mtX_popS, eq_nils, ne_nils, pk_nil', pk_cons', Option.toList_some, Option.toList_none, bin_powI, at_ibI, slcT_to, slcL_to, List.take_succ_cons, List.take_zero, Int.reduceNeg, Int.zero_add, setX_m1, wp_setFld, setFS_new, fld_ins, wp_compF, wp_forF, wipe_nil, wipe_cons, restore_nil, restore_cons, wip_nil, wip_cons, wipS_emp, wipS_val, tok_none, rng1, rng2, rng3, rngL1, rngL2, tok_lst, tok_tup, forK_nx, forK_ct, forK_bk, forK_rt, Bool.and_self, Bool.and_true, Bool.true_and, Int.reduceToNat, Int.toNat_natCast, Int.reduceSub, Nat.reduceSub, nums_len, wp_ok, wp_bad, wp_bind, wp_ret, wp_some, wp_none, wp_ifS, wp_ifSm, wp_ifSb, Bool.false_eq_true, wp_if, br_true, br_false, br_dec, br_not, cbr_true, cbr_false, cbr_dec, cbr_not, wp_ofRC, wp_blk, cp_ok, endK_rt, endK_nx, orc_n, orc_s, look_zero, look_succ, has_zero, has_succ, set_zero, set_succ, getS_val, getS_ownT, getS_ownF, getS_owniT, getS_owniF, view_slt, view_ref, viewS_own, viewS_owni, viewO_lst, viewO_ins, view_int, view_bl, view_str, view_non, view_tup, view_lst, view_ins, go_nx, go_rt, go_bk, go_ct, bin_addI, bin_subI, bin_mulI, bin_fdivI, bin_modI, bin_addT, bin_addL, cmp_eqI, cmp_neI, cmp_ltI, cmp_leI, cmp_gtI, cmp_geI, idx_lst, idx_tup, at_0, at_1, at_2, at_3, at_4, at_5, at_m1, len_lst, len_tup, bi_int, bi_abs, bi_intb, bi_max2, bi_min2, bi_min3, bi_tupL, bi_tupT, bi_lstL, bi_lstT, seq_lst, seq_tup, lst_lst, bl_bl, int_int, isN_int, isN_bl, isN_non, isN_tup, isN_lst, isN_str, isN_ins, isB_int, isB_tup, isB_non, isB_str, isB_tt, isB_tf, isB_ft, isB_ff, lix_n, lix_t, lix_f, Int.cast_ofNat_Int, in_lst, in_tup, nin_lst, nin_tup, srt_lst, srt_tup, eq_tups, isT_int, isT_tup, isT_lst, isT_str, isT_bl, isT_non, isT_ins, isT_nil, putS_own, putR_lst, wp_putS, wp_putR, wp_setSub, setX_0, setX_1, setX_2, setX_3, wp_mtD, mtX_pop, mtX_app, Option.map_some, Option.map_none, Option.bind_some, Option.bind_none, List.map_cons, List.map_nil, List.append_nil, List.nil_append, List.cons_append, List.replicate_succ, List.replicate_zero, true_and, and_true, if_true, if_false, ne_eq, not_true_eq_false, not_false_eq_true, Bool.not_true, Bool.not_false, forall_const, forall_false, implies_true, false_implies, true_implies, reduceCtorEq, List.set_set, mulOk_l, mulOk_r, Int.reduceEq, Int.reduceLT, Int.reduceLE, na_lit, na_neg, Nat.reduceLT, Nat.reduceLeDiff, and_self, List.length_cons, List.length_nil, Tgs.len, Nat.reduceAdd, Nat.reduceEqDiff, eq_self, decide_true, decide_false, List.getElem?_cons_zero, List.getElem?_cons_succ, Bool.and_false, Bool.false_and, Bool.or_true, Bool.or_false, Bool.true_or, Bool.false_or, and_assoc, fn__law_lots, b__law_lots]
  refine wp_forN (fun i s => ∃ w3 F, s = ⟨[.val (.lst (nums H)), .val (.int m), .val (.lst (F.map tupN)), w3, .emp], S⟩ ∧ F = (H.take i).foldl (grow m) [[]] ∧ F.length ≤ 2 ^ i ∧ ∀ l ∈ F, l.length ≤ i) ⟨.emp, [[]], rfl, rfl, by simp, by simp⟩ ?_ ?_
  · rintro i d s hd ⟨w3, F, rfl, hF, l1, l2⟩
    have hi : i < H.length := by
      have := (List.getElem?_eq_some_iff.mp hd).1
      rwa [nums_len] at this
    have hd' : d = .int H[i] := by
      unfold nums at hd
      rw [List.getElem?_map, List.getElem?_eq_getElem hi] at hd
      cases hd; rfl
    subst hd'
    have hp : 2 ^ i ≤ 2 ^ 12 := Nat.pow_le_pow_right (by decide) (by omega)
    refine ⟨rfl, ?_⟩
    simp only [↓wp_int, ↓wp_str, ↓wp_bl, ↓wp_non, ↓wp_gint, ↓wp_gcls, ↓wp_var, ↓wp_tup, ↓wp_lst, ↓wp_bin, ↓wp_neg, ↓wp_cmp, ↓wp_isc, ↓wp_chain, ↓wp_and, ↓wp_or, ↓wp_and1, ↓wp_and2, ↓wp_or1, ↓wp_or2, ↓wp_not, ↓wp_ifx, ↓wp_idx, ↓wp_slc, ↓wp_rev, ↓wp_fld, ↓wp_call, ↓wp_callk, ↓wp_new, ↓wp_bi, ↓wp_lrg, ↓wp_isi, ↓wp_mt, ↓wp_comp, ↓wp_gal, ↓wp_evP0, ↓wp_evP1, ↓wp_nil, ↓wp_cons, ↓wp_nilB, ↓wp_consB, ↓wp_ts0, ↓wp_ts1, ↓wo_lst, ↓wo_comp, ↓wo_lrg, ↓wo_list, ↓wo_sorted, ↓wo_rev, ↓wo_add, ↓wo_mul, ↓wi_seq, ↓wi_rng, ↓wi_enum, ↓wt_nm, ↓wt_tup, ↓wt_nil, ↓wt_cons, ↓wt_sub, ↓wt_fld, ↓ws_nil, ↓ws_asg, ↓ws_aown, ↓ws_par, ↓ws_expr, ↓ws_ret, ↓ws_retn, ↓ws_pas, ↓ws_doc, ↓ws_brk, ↓ws_cnt, ↓ws_iteN, ↓ws_ite, ↓ws_for, ↓ws_whl, srK_rt, srK_nx, srK_ct, mtX_popS, eq_nils, ne_nils, pk_nil', pk_cons', Option.toList_some, Option.toList_none, bin_powI, at_ibI, slcT_to, slcL_to, List.take_succ_cons, List.take_zero, Int.reduceNeg, Int.zero_add, setX_m1, wp_setFld, setFS_new, fld_ins, wp_compF, wp_forF, wipe_nil, wipe_cons, restore_nil, restore_cons, wip_nil, wip_cons, wipS_emp, wipS_val, tok_none, rng1, rng2, rng3, rngL1, rngL2, tok_lst, tok_tup, forK_nx, forK_ct, forK_bk, forK_rt, Bool.and_self, Bool.and_true, Bool.true_and, Int.reduceToNat, Int.toNat_natCast, Int.reduceSub, Nat.reduceSub, nums_len, wp_ok, wp_bad, wp_bind, wp_ret, wp_some, wp_none, wp_ifS, wp_ifSm, wp_ifSb, Bool.false_eq_true, wp_if, br_true, br_false, br_dec, br_not, cbr_true, cbr_false, cbr_dec, cbr_not, wp_ofRC, wp_blk, cp_ok, endK_rt, endK_nx, orc_n, orc_s, look_zero, look_succ, has_zero, has_succ, set_zero, set_succ, getS_val, getS_ownT, getS_ownF, getS_owniT, getS_owniF, view_slt, view_ref, viewS_own, viewS_owni, viewO_lst, viewO_ins, view_int, view_bl, view_str, view_non, view_tup, view_lst, view_ins, go_nx, go_rt, go_bk, go_ct, bin_addI, bin_subI, bin_mulI, bin_fdivI, bin_modI, bin_addT, bin_addL, cmp_eqI, cmp_neI, cmp_ltI, cmp_leI, cmp_gtI, cmp_geI, idx_lst, idx_tup, at_0, at_1, at_2, at_3, at_4, at_5, at_m1, len_lst, len_tup, bi_int, bi_abs, bi_intb, bi_max2, bi_min2, bi_min3, bi_tupL, bi_tupT, bi_lstL, bi_lstT, seq_lst, seq_tup, lst_lst, bl_bl, int_int, isN_int, isN_bl, isN_non, isN_tup, isN_lst, isN_str, isN_ins, isB_int, isB_tup, isB_non, isB_str, isB_tt, isB_tf, isB_ft, isB_ff, lix_n, lix_t, lix_f, Int.cast_ofNat_Int, in_lst, in_tup, nin_lst, nin_tup, srt_lst, srt_tup, eq_tups, isT_int, isT_tup, isT_lst, isT_str, isT_bl, isT_non, isT_ins, isT_nil, putS_own, putR_lst, wp_putS, wp_putR, wp_setSub, setX_0, setX_1, setX_2, setX_3, wp_mtD, mtX_pop, mtX_app, Option.map_some, Option.map_none, Option.bind_some, Option.bind_none, List.map_cons, List.map_nil, List.append_nil, List.nil_append, List.cons_append, List.replicate_succ, List.replicate_zero, true_and, and_true, if_true, if_false, ne_eq, not_true_eq_false, not_false_eq_true, Bool.not_true, Bool.not_false, forall_const, forall_false, implies_true, false_implies, true_implies, reduceCtorEq, List.set_set, mulOk_l, mulOk_r, Int.reduceEq, Int.reduceLT, Int.reduceLE, na_lit, na_neg, Nat.reduceLT, Nat.reduceLeDiff, and_self, List.length_cons, List.length_nil, Tgs.len, Nat.reduceAdd, Nat.reduceEqDiff, eq_self, decide_true, decide_false, List.getElem?_cons_zero, List.getElem?_cons_succ, Bool.and_false, Bool.false_and, Bool.or_true, Bool.or_false, Bool.true_or, Bool.false_or, and_assoc]
    refine wp_compI (φ := tupN) (Ls := F) (fun l => if decide ((l.length : Int) < m) = true then some (tupN (l ++ [H[i]])) else none) (fun w => ⟨[.val (.lst (nums H)), .val (.int m), .val (.lst (F.map tupN)), .val (.int H[i]), w], S⟩) .emp (fun _ => rfl) (fun a ha w => ?_) fun w => ?_
    · have la := l2 a ha
      have lb : (nums a).length + 1 ≤ lim := by rw [nums_len]; unfold lim; omega
      simp only [↓wp_int, ↓wp_str, ↓wp_bl, ↓wp_non, ↓wp_gint, ↓wp_gcls, ↓wp_var, ↓wp_tup, ↓wp_lst, ↓wp_bin, ↓wp_neg, ↓wp_cmp, ↓wp_isc, ↓wp_chain, ↓wp_and, ↓wp_or, ↓wp_and1, ↓wp_and2, ↓wp_or1, ↓wp_or2, ↓wp_not, ↓wp_ifx, ↓wp_idx, ↓wp_slc, ↓wp_rev, ↓wp_fld, ↓wp_call, ↓wp_callk, ↓wp_new, ↓wp_bi, ↓wp_lrg, ↓wp_isi, ↓wp_mt, ↓wp_comp, ↓wp_gal, ↓wp_evP0, ↓wp_evP1, ↓wp_nil, ↓wp_cons, ↓wp_nilB, ↓wp_consB, ↓wp_ts0, ↓wp_ts1, ↓wo_lst, ↓wo_comp, ↓wo_lrg, ↓wo_list, ↓wo_sorted, ↓wo_rev, ↓wo_add, ↓wo_mul, ↓wi_seq, ↓wi_rng, ↓wi_enum, ↓wt_nm, ↓wt_tup, ↓wt_nil, ↓wt_cons, ↓wt_sub, ↓wt_fld, ↓ws_nil, ↓ws_asg, ↓ws_aown, ↓ws_par, ↓ws_expr, ↓ws_ret, ↓ws_retn, ↓ws_pas, ↓ws_doc, ↓ws_brk, ↓ws_cnt, ↓ws_iteN, ↓ws_ite, ↓ws_for, ↓ws_whl, srK_rt, srK_nx, srK_ct, mtX_popS, eq_nils, ne_nils, pk_nil', pk_cons', Option.toList_some, Option.toList_none, bin_powI, at_ibI, slcT_to, slcL_to, List.take_succ_cons, List.take_zero, Int.reduceNeg, Int.zero_add, setX_m1, wp_setFld, setFS_new, fld_ins, wp_compF, wp_forF, wipe_nil, wipe_cons, restore_nil, restore_cons, wip_nil, wip_cons, wipS_emp, wipS_val, tok_none, rng1, rng2, rng3, rngL1, rngL2, tok_lst, tok_tup, forK_nx, forK_ct, forK_bk, forK_rt, Bool.and_self, Bool.and_true, Bool.true_and, Int.reduceToNat, Int.toNat_natCast, Int.reduceSub, Nat.reduceSub, nums_len, wp_ok, wp_bad, wp_bind, wp_ret, wp_some, wp_none, wp_ifS, wp_ifSm, wp_ifSb, Bool.false_eq_true, wp_if, br_true, br_false, br_dec, br_not, cbr_true, cbr_false, cbr_dec, cbr_not, wp_ofRC, wp_blk, cp_ok, endK_rt, endK_nx, orc_n, orc_s, look_zero, look_succ, has_zero, has_succ, set_zero, set_succ, getS_val, getS_ownT, getS_ownF, getS_owniT, getS_owniF, view_slt, view_ref, viewS_own, viewS_owni, viewO_lst, viewO_ins, view_int, view_bl, view_str, view_non, view_tup, view_lst, view_ins, go_nx, go_rt, go_bk, go_ct, bin_addI, bin_subI, bin_mulI, bin_fdivI, bin_modI, bin_addT, bin_addL, cmp_eqI, cmp_neI, cmp_ltI, cmp_leI, cmp_gtI, cmp_geI, idx_lst, idx_tup, at_0, at_1, at_2, at_3, at_4, at_5, at_m1, len_lst, len_tup, bi_int, bi_abs, bi_intb, bi_max2, bi_min2, bi_min3, bi_tupL, bi_tupT, bi_lstL, bi_lstT, seq_lst, seq_tup, lst_lst, bl_bl, int_int, isN_int, isN_bl, isN_non, isN_tup, isN_lst, isN_str, isN_ins, isB_int, isB_tup, isB_non, isB_str, isB_tt, isB_tf, isB_ft, isB_ff, lix_n, lix_t, lix_f, Int.cast_ofNat_Int, in_lst, in_tup, nin_lst, nin_tup, srt_lst, srt_tup, eq_tups, isT_int, isT_tup, isT_lst, isT_str, isT_bl, isT_non, isT_ins, isT_nil, putS_own, putR_lst, wp_putS, wp_putR, wp_setSub, setX_0, setX_1, setX_2, setX_3, wp_mtD, mtX_pop, mtX_app, Option.map_some, Option.map_none, Option.bind_some, Option.bind_none, List.map_cons, List.map_nil, List.append_nil, List.nil_append, List.cons_append, List.replicate_succ, List.replicate_zero, true_and, and_true, if_true, if_false, ne_eq, not_true_eq_false, not_false_eq_true, Bool.not_true, Bool.not_false, forall_const, forall_false, implies_true, false_implies, true_implies, reduceCtorEq, List.set_set, mulOk_l, mulOk_r, Int.reduceEq, Int.reduceLT, Int.reduceLE, na_lit, na_neg, Nat.reduceLT, Nat.reduceLeDiff, and_self, List.length_cons, List.length_nil, Tgs.len, Nat.reduceAdd, Nat.reduceEqDiff, eq_self, decide_true, decide_false, List.getElem?_cons_zero, List.getElem?_cons_succ, Bool.and_false, Bool.false_and, Bool.or_true, Bool.or_false, Bool.true_or, Bool.false_or, and_assoc, tupN]
      refine ⟨fun h => ⟨by unfold lim; omega, by rw [if_pos (decide_eq_true h)]; simp [nums], _, rfl⟩, fun h => ⟨by rw [if_neg (by simp only [decide_eq_true_eq]; exact h)], _, rfl⟩⟩
    · rw [fm_if]
      simp only [↓wp_int, ↓wp_str, ↓wp_bl, ↓wp_non, ↓wp_gint, ↓wp_gcls, ↓wp_var, ↓wp_tup, ↓wp_lst, ↓wp_bin, ↓wp_neg, ↓wp_cmp, ↓wp_isc, ↓wp_chain, ↓wp_and, ↓wp_or, ↓wp_and1, ↓wp_and2, ↓wp_or1, ↓wp_or2, ↓wp_not, ↓wp_ifx, ↓wp_idx, ↓wp_slc, ↓wp_rev, ↓wp_fld, ↓wp_call, ↓wp_callk, ↓wp_new, ↓wp_bi, ↓wp_lrg, ↓wp_isi, ↓wp_mt, ↓wp_comp, ↓wp_gal, ↓wp_evP0, ↓wp_evP1, ↓wp_nil, ↓wp_cons, ↓wp_nilB, ↓wp_consB, ↓wp_ts0, ↓wp_ts1, ↓wo_lst, ↓wo_comp, ↓wo_lrg, ↓wo_list, ↓wo_sorted, ↓wo_rev, ↓wo_add, ↓wo_mul, ↓wi_seq, ↓wi_rng, ↓wi_enum, ↓wt_nm, ↓wt_tup, ↓wt_nil, ↓wt_cons, ↓wt_sub, ↓wt_fld, ↓ws_nil, ↓ws_asg, ↓ws_aown, ↓ws_par, ↓ws_expr, ↓ws_ret, ↓ws_retn, ↓ws_pas, ↓ws_doc, ↓ws_brk, ↓ws_cnt, ↓ws_iteN, ↓ws_ite, ↓ws_for, ↓ws_whl, srK_rt, srK_nx, srK_ct, mtX_popS, eq_nils, ne_nils, pk_nil', pk_cons', Option.toList_some, Option.toList_none, bin_powI, at_ibI, slcT_to, slcL_to, List.take_succ_cons, List.take_zero, Int.reduceNeg, Int.zero_add, setX_m1, wp_setFld, setFS_new, fld_ins, wp_compF, wp_forF, wipe_nil, wipe_cons, restore_nil, restore_cons, wip_nil, wip_cons, wipS_emp, wipS_val, tok_none, rng1, rng2, rng3, rngL1, rngL2, tok_lst, tok_tup, forK_nx, forK_ct, forK_bk, forK_rt, Bool.and_self, Bool.and_true, Bool.true_and, Int.reduceToNat, Int.toNat_natCast, Int.reduceSub, Nat.reduceSub, nums_len, wp_ok, wp_bad, wp_bind, wp_ret, wp_some, wp_none, wp_ifS, wp_ifSm, wp_ifSb, Bool.false_eq_true, wp_if, br_true, br_false, br_dec, br_not, cbr_true, cbr_false, cbr_dec, cbr_not, wp_ofRC, wp_blk, cp_ok, endK_rt, endK_nx, orc_n, orc_s, look_zero, look_succ, has_zero, has_succ, set_zero, set_succ, getS_val, getS_ownT, getS_ownF, getS_owniT, getS_owniF, view_slt, view_ref, viewS_own, viewS_owni, viewO_lst, viewO_ins, view_int, view_bl, view_str, view_non, view_tup, view_lst, view_ins, go_nx, go_rt, go_bk, go_ct, bin_addI, bin_subI, bin_mulI, bin_fdivI, bin_modI, bin_addT, bin_addL, cmp_eqI, cmp_neI, cmp_ltI, cmp_leI, cmp_gtI, cmp_geI, idx_lst, idx_tup, at_0, at_1, at_2, at_3, at_4, at_5, at_m1, len_lst, len_tup, bi_int, bi_abs, bi_intb, bi_max2, bi_min2, bi_min3, bi_tupL, bi_tupT, bi_lstL, bi_lstT, seq_lst, seq_tup, lst_lst, bl_bl, int_int, isN_int, isN_bl, isN_non, isN_tup, isN_lst, isN_str, isN_ins, isB_int, isB_tup, isB_non, isB_str, isB_tt, isB_tf, isB_ft, isB_ff, lix_n, lix_t, lix_f, Int.cast_ofNat_Int, in_lst, in_tup, nin_lst, nin_tup, srt_lst, srt_tup, eq_tups, isT_int, isT_tup, isT_lst, isT_str, isT_bl, isT_non, isT_ins, isT_nil, putS_own, putR_lst, wp_putS, wp_putR, wp_setSub, setX_0, setX_1, setX_2, setX_3, wp_mtD, mtX_pop, mtX_app, Option.map_some, Option.map_none, Option.bind_some, Option.bind_none, List.map_cons, List.map_nil, List.append_nil, List.nil_append, List.cons_append, List.replicate_succ, List.replicate_zero, true_and, and_true, if_true, if_false, ne_eq, not_true_eq_false, not_false_eq_true, Bool.not_true, Bool.not_false, forall_const, forall_false, implies_true, false_implies, true_implies, reduceCtorEq, List.set_set, mulOk_l, mulOk_r, Int.reduceEq, Int.reduceLT, Int.reduceLE, na_lit, na_neg, Nat.reduceLT, Nat.reduceLeDiff, and_self, List.length_cons, List.length_nil, Tgs.len, Nat.reduceAdd, Nat.reduceEqDiff, eq_self, decide_true, decide_false, List.getElem?_cons_zero, List.getElem?_cons_succ, Bool.and_false, Bool.false_and, Bool.or_true, Bool.or_false, Bool.true_or, Bool.false_or, and_assoc]
      have g1 := grow_len (m := m) (h := H[i]) (F := F)
      refine ⟨?_, .val (.int H[i]), grow m F H[i], ?_, ?_, ?_, grow_mem l2⟩
      · rw [List.length_map, List.length_map]
        have := List.length_filter_le (fun l : List Int => decide ((l.length : Int) < m)) F
        unfold lim; omega
      · unfold grow
        rw [List.map_append, List.map_map]; rfl
      · rw [List.take_succ, List.getElem?_eq_getElem hi, List.foldl_append, ← hF]; rfl
      · rw [Nat.pow_succ]; omega
  · rintro s ⟨w3, F, rfl, hF, l1, l2⟩
    refine ⟨rfl, ?_⟩
    simp only [↓wp_int, ↓wp_str, ↓wp_bl, ↓wp_non, ↓wp_gint, ↓wp_gcls, ↓wp_var, ↓wp_tup, ↓wp_lst, ↓wp_bin, ↓wp_neg, ↓wp_cmp, ↓wp_isc, ↓wp_chain, ↓wp_and, ↓wp_or, ↓wp_and1, ↓wp_and2, ↓wp_or1, ↓wp_or2, ↓wp_not, ↓wp_ifx, ↓wp_idx, ↓wp_slc, ↓wp_rev, ↓wp_fld, ↓wp_call, ↓wp_callk, ↓wp_new, ↓wp_bi, ↓wp_lrg, ↓wp_isi, ↓wp_mt, ↓wp_comp, ↓wp_gal, ↓wp_evP0, ↓wp_evP1, ↓wp_nil, ↓wp_cons, ↓wp_nilB, ↓wp_consB, ↓wp_ts0, ↓wp_ts1, ↓wo_lst, ↓wo_comp, ↓wo_lrg, ↓wo_list, ↓wo_sorted, ↓wo_rev, ↓wo_add, ↓wo_mul, ↓wi_seq, ↓wi_rng, ↓wi_enum, ↓wt_nm, ↓wt_tup, ↓wt_nil, ↓wt_cons, ↓wt_sub, ↓wt_fld, ↓ws_nil, ↓ws_asg, ↓ws_aown, ↓ws_par, ↓ws_expr, ↓ws_ret, ↓ws_retn, ↓ws_pas, ↓ws_doc, ↓ws_brk, ↓ws_cnt, ↓ws_iteN, ↓ws_ite, ↓ws_for, ↓ws_whl, srK_rt, srK_nx, srK_ct, mtX_popS, eq_nils, ne_nils, pk_nil', pk_cons', Option.toList_some, Option.toList_none, bin_powI, at_ibI, slcT_to, slcL_to, List.take_succ_cons, List.take_zero, Int.reduceNeg, Int.zero_add, setX_m1, wp_setFld, setFS_new, fld_ins, wp_compF, wp_forF, wipe_nil, wipe_cons, restore_nil, restore_cons, wip_nil, wip_cons, wipS_emp, wipS_val, tok_none, rng1, rng2, rng3, rngL1, rngL2, tok_lst, tok_tup, forK_nx, forK_ct, forK_bk, forK_rt, Bool.and_self, Bool.and_true, Bool.true_and, Int.reduceToNat, Int.toNat_natCast, Int.reduceSub, Nat.reduceSub, nums_len, wp_ok, wp_bad, wp_bind, wp_ret, wp_some, wp_none, wp_ifS, wp_ifSm, wp_ifSb, Bool.false_eq_true, wp_if, br_true, br_false, br_dec, br_not, cbr_true, cbr_false, cbr_dec, cbr_not, wp_ofRC, wp_blk, cp_ok, endK_rt, endK_nx, orc_n, orc_s, look_zero, look_succ, has_zero, has_succ, set_zero, set_succ, getS_val, getS_ownT, getS_ownF, getS_owniT, getS_owniF, view_slt, view_ref, viewS_own, viewS_owni, viewO_lst, viewO_ins, view_int, view_bl, view_str, view_non, view_tup, view_lst, view_ins, go_nx, go_rt, go_bk, go_ct, bin_addI, bin_subI, bin_mulI, bin_fdivI, bin_modI, bin_addT, bin_addL, cmp_eqI, cmp_neI, cmp_ltI, cmp_leI, cmp_gtI, cmp_geI, idx_lst, idx_tup, at_0, at_1, at_2, at_3, at_4, at_5, at_m1, len_lst, len_tup, bi_int, bi_abs, bi_intb, bi_max2, bi_min2, bi_min3, bi_tupL, bi_tupT, bi_lstL, bi_lstT, seq_lst, seq_tup, lst_lst, bl_bl, int_int, isN_int, isN_bl, isN_non, isN_tup, isN_lst, isN_str, isN_ins, isB_int, isB_tup, isB_non, isB_str, isB_tt, isB_tf, isB_ft, isB_ff, lix_n, lix_t, lix_f, Int.cast_ofNat_Int, in_lst, in_tup, nin_lst, nin_tup, srt_lst, srt_tup, eq_tups, isT_int, isT_tup, isT_lst, isT_str, isT_bl, isT_non, isT_ins, isT_nil, putS_own, putR_lst, wp_putS, wp_putR, wp_setSub, setX_0, setX_1, setX_2, setX_3, wp_mtD, mtX_pop, mtX_app, Option.map_some, Option.map_none, Option.bind_some, Option.bind_none, List.map_cons, List.map_nil, List.append_nil, List.nil_append, List.cons_append, List.replicate_succ, List.replicate_zero, true_and, and_true, if_true, if_false, ne_eq, not_true_eq_false, not_false_eq_true, Bool.not_true, Bool.not_false, forall_const, forall_false, implies_true, false_implies, true_implies, reduceCtorEq, List.set_set, mulOk_l, mulOk_r, Int.reduceEq, Int.reduceLT, Int.reduceLE, na_lit, na_neg, Nat.reduceLT, Nat.reduceLeDiff, and_self, List.length_cons, List.length_nil, Tgs.len, Nat.reduceAdd, Nat.reduceEqDiff, eq_self, decide_true, decide_false, List.getElem?_cons_zero, List.getElem?_cons_succ, Bool.and_false, Bool.false_and, Bool.or_true, Bool.or_false, Bool.true_or, Bool.false_or, and_assoc]
    refine wp_compI (φ := tupN) (Ls := F) (fun l => if decide ((l.length : Int) = m) = true then some (tupN l) else none) (fun w => ⟨[.val (.lst (nums H)), .val (.int m), .val (.lst (F.map tupN)), w3, w], S⟩) .emp (fun _ => rfl) (fun a ha w => ?_) fun w => ?_
    · simp only [↓wp_int, ↓wp_str, ↓wp_bl, ↓wp_non, ↓wp_gint, ↓wp_gcls, ↓wp_var, ↓wp_tup, ↓wp_lst, ↓wp_bin, ↓wp_neg, ↓wp_cmp, ↓wp_isc, ↓wp_chain, ↓wp_and, ↓wp_or, ↓wp_and1, ↓wp_and2, ↓wp_or1, ↓wp_or2, ↓wp_not, ↓wp_ifx, ↓wp_idx, ↓wp_slc, ↓wp_rev, ↓wp_fld, ↓wp_call, ↓wp_callk, ↓wp_new, ↓wp_bi, ↓wp_lrg, ↓wp_isi, ↓wp_mt, ↓wp_comp, ↓wp_gal, ↓wp_evP0, ↓wp_evP1, ↓wp_nil, ↓wp_cons, ↓wp_nilB, ↓wp_consB, ↓wp_ts0, ↓wp_ts1, ↓wo_lst, ↓wo_comp, ↓wo_lrg, ↓wo_list, ↓wo_sorted, ↓wo_rev, ↓wo_add, ↓wo_mul, ↓wi_seq, ↓wi_rng, ↓wi_enum, ↓wt_nm, ↓wt_tup, ↓wt_nil, ↓wt_cons, ↓wt_sub, ↓wt_fld, ↓ws_nil, ↓ws_asg, ↓ws_aown, ↓ws_par, ↓ws_expr, ↓ws_ret, ↓ws_retn, ↓ws_pas, ↓ws_doc, ↓ws_brk, ↓ws_cnt, ↓ws_iteN, ↓ws_ite, ↓ws_for, ↓ws_whl, srK_rt, srK_nx, srK_ct, mtX_popS, eq_nils, ne_nils, pk_nil', pk_cons', Option.toList_some, Option.toList_none, bin_powI, at_ibI, slcT_to, slcL_to, List.take_succ_cons, List.take_zero, Int.reduceNeg, Int.zero_add, setX_m1, wp_setFld, setFS_new, fld_ins, wp_compF, wp_forF, wipe_nil, wipe_cons, restore_nil, restore_cons, wip_nil, wip_cons, wipS_emp, wipS_val, tok_none, rng1, rng2, rng3, rngL1, rngL2, tok_lst, tok_tup, forK_nx, forK_ct, forK_bk, forK_rt, Bool.and_self, Bool.and_true, Bool.true_and, Int.reduceToNat, Int.toNat_natCast, Int.reduceSub, Nat.reduceSub, nums_len, wp_ok, wp_bad, wp_bind, wp_ret, wp_some, wp_none, wp_ifS, wp_ifSm, wp_ifSb, Bool.false_eq_true, wp_if, br_true, br_false, br_dec, br_not, cbr_true, cbr_false, cbr_dec, cbr_not, wp_ofRC, wp_blk, cp_ok, endK_rt, endK_nx, orc_n, orc_s, look_zero, look_succ, has_zero, has_succ, set_zero, set_succ, getS_val, getS_ownT, getS_ownF, getS_owniT, getS_owniF, view_slt, view_ref, viewS_own, viewS_owni, viewO_lst, viewO_ins, view_int, view_bl, view_str, view_non, view_tup, view_lst, view_ins, go_nx, go_rt, go_bk, go_ct, bin_addI, bin_subI, bin_mulI, bin_fdivI, bin_modI, bin_addT, bin_addL, cmp_eqI, cmp_neI, cmp_ltI, cmp_leI, cmp_gtI, cmp_geI, idx_lst, idx_tup, at_0, at_1, at_2, at_3, at_4, at_5, at_m1, len_lst, len_tup, bi_int, bi_abs, bi_intb, bi_max2, bi_min2, bi_min3, bi_tupL, bi_tupT, bi_lstL, bi_lstT, seq_lst, seq_tup, lst_lst, bl_bl, int_int, isN_int, isN_bl, isN_non, isN_tup, isN_lst, isN_str, isN_ins, isB_int, isB_tup, isB_non, isB_str, isB_tt, isB_tf, isB_ft, isB_ff, lix_n, lix_t, lix_f, Int.cast_ofNat_Int, in_lst, in_tup, nin_lst, nin_tup, srt_lst, srt_tup, eq_tups, isT_int, isT_tup, isT_lst, isT_str, isT_bl, isT_non, isT_ins, isT_nil, putS_own, putR_lst, wp_putS, wp_putR, wp_setSub, setX_0, setX_1, setX_2, setX_3, wp_mtD, mtX_pop, mtX_app, Option.map_some, Option.map_none, Option.bind_some, Option.bind_none, List.map_cons, List.map_nil, List.append_nil, List.nil_append, List.cons_append, List.replicate_succ, List.replicate_zero, true_and, and_true, if_true, if_false, ne_eq, not_true_eq_false, not_false_eq_true, Bool.not_true, Bool.not_false, forall_const, forall_false, implies_true, false_implies, true_implies, reduceCtorEq, List.set_set, mulOk_l, mulOk_r, Int.reduceEq, Int.reduceLT, Int.reduceLE, na_lit, na_neg, Nat.reduceLT, Nat.reduceLeDiff, and_self, List.length_cons, List.length_nil, Tgs.len, Nat.reduceAdd, Nat.reduceEqDiff, eq_self, decide_true, decide_false, List.getElem?_cons_zero, List.getElem?_cons_succ, Bool.and_false, Bool.false_and, Bool.or_true, Bool.or_false, Bool.true_or, Bool.false_or, and_assoc, tupN]
      refine ⟨fun h => ⟨by rw [if_pos (decide_eq_true h)], _, rfl⟩, fun h => ⟨by rw [if_neg (by simp only [decide_eq_true_eq]; exact h)], _, rfl⟩⟩
    · rw [fm_if]
      simp only [↓wp_int, ↓wp_str, ↓wp_bl, ↓wp_non, ↓wp_gint, ↓wp_gcls, ↓wp_var, ↓wp_tup, ↓wp_lst, ↓wp_bin, ↓wp_neg, ↓wp_cmp, ↓wp_isc, ↓wp_chain, ↓wp_and, ↓wp_or, ↓wp_and1, ↓wp_and2, ↓wp_or1, ↓wp_or2, ↓wp_not, ↓wp_ifx, ↓wp_idx, ↓wp_slc, ↓wp_rev, ↓wp_fld, ↓wp_call, ↓wp_callk, ↓wp_new, ↓wp_bi, ↓wp_lrg, ↓wp_isi, ↓wp_mt, ↓wp_comp, ↓wp_gal, ↓wp_evP0, ↓wp_evP1, ↓wp_nil, ↓wp_cons, ↓wp_nilB, ↓wp_consB, ↓wp_ts0, ↓wp_ts1, ↓wo_lst, ↓wo_comp, ↓wo_lrg, ↓wo_list, ↓wo_sorted, ↓wo_rev, ↓wo_add, ↓wo_mul, ↓wi_seq, ↓wi_rng, ↓wi_enum, ↓wt_nm, ↓wt_tup, ↓wt_nil, ↓wt_cons, ↓wt_sub, ↓wt_fld, ↓ws_nil, ↓ws_asg, ↓ws_aown, ↓ws_par, ↓ws_expr, ↓ws_ret, ↓ws_retn, ↓ws_pas, ↓ws_doc, ↓ws_brk, ↓ws_cnt, ↓ws_iteN, ↓ws_ite, ↓ws_for, ↓ws_whl, srK_rt, srK_nx, srK_ct, mtX_popS, eq_nils, ne_nils, pk_nil', pk_cons', Option.toList_some, Option.toList_none, bin_powI, at_ibI, slcT_to, slcL_to, List.take_succ_cons, List.take_zero, Int.reduceNeg, Int.zero_add, setX_m1, wp_setFld, setFS_new, fld_ins, wp_compF, wp_forF, wipe_nil, wipe_cons, restore_nil, restore_cons, wip_nil, wip_cons, wipS_emp, wipS_val, tok_none, rng1, rng2, rng3, rngL1, rngL2, tok_lst, tok_tup, forK_nx, forK_ct, forK_bk, forK_rt, Bool.and_self, Bool.and_true, Bool.true_and, Int.reduceToNat, Int.toNat_natCast, Int.reduceSub, Nat.reduceSub, nums_len, wp_ok, wp_bad, wp_bind, wp_ret, wp_some, wp_none, wp_ifS, wp_ifSm, wp_ifSb, Bool.false_eq_true, wp_if, br_true, br_false, br_dec, br_not, cbr_true, cbr_false, cbr_dec, cbr_not, wp_ofRC, wp_blk, cp_ok, endK_rt, endK_nx, orc_n, orc_s, look_zero, look_succ, has_zero, has_succ, set_zero, set_succ, getS_val, getS_ownT, getS_ownF, getS_owniT, getS_owniF, view_slt, view_ref, viewS_own, viewS_owni, viewO_lst, viewO_ins, view_int, view_bl, view_str, view_non, view_tup, view_lst, view_ins, go_nx, go_rt, go_bk, go_ct, bin_addI, bin_subI, bin_mulI, bin_fdivI, bin_modI, bin_addT, bin_addL, cmp_eqI, cmp_neI, cmp_ltI, cmp_leI, cmp_gtI, cmp_geI, idx_lst, idx_tup, at_0, at_1, at_2, at_3, at_4, at_5, at_m1, len_lst, len_tup, bi_int, bi_abs, bi_intb, bi_max2, bi_min2, bi_min3, bi_tupL, bi_tupT, bi_lstL, bi_lstT, seq_lst, seq_tup, lst_lst, bl_bl, int_int, isN_int, isN_bl, isN_non, isN_tup, isN_lst, isN_str, isN_ins, isB_int, isB_tup, isB_non, isB_str, isB_tt, isB_tf, isB_ft, isB_ff, lix_n, lix_t, lix_f, Int.cast_ofNat_Int, in_lst, in_tup, nin_lst, nin_tup, srt_lst, srt_tup, eq_tups, isT_int, isT_tup, isT_lst, isT_str, isT_bl, isT_non, isT_ins, isT_nil, putS_own, putR_lst, wp_putS, wp_putR, wp_setSub, setX_0, setX_1, setX_2, setX_3, wp_mtD, mtX_pop, mtX_app, Option.map_some, Option.map_none, Option.bind_some, Option.bind_none, List.map_cons, List.map_nil, List.append_nil, List.nil_append, List.cons_append, List.replicate_succ, List.replicate_zero, true_and, and_true, if_true, if_false, ne_eq, not_true_eq_false, not_false_eq_true, Bool.not_true, Bool.not_false, forall_const, forall_false, implies_true, false_implies, true_implies, reduceCtorEq, List.set_set, mulOk_l, mulOk_r, Int.reduceEq, Int.reduceLT, Int.reduceLE, na_lit, na_neg, Nat.reduceLT, Nat.reduceLeDiff, and_self, List.length_cons, List.length_nil, Tgs.len, Nat.reduceAdd, Nat.reduceEqDiff, eq_self, decide_true, decide_false, List.getElem?_cons_zero, List.getElem?_cons_succ, Bool.and_false, Bool.false_and, Bool.or_true, Bool.or_false, Bool.true_or, Bool.false_or, and_assoc]
      rw [nums_len, List.take_length] at hF
      rw [hF]; rfl
def NearP (k : Nat) (f a : Int) (u : Nat) : Prop := ∃ A ∈ lotsL (span 0 k) a, ∃ B ∈ lotsL (span u k) a, both A B ≤ f
theorem near {q k u : Nat} {f d a b c : Int} {S : List Ob} (hk : k ≤ 12) (hu : u ≤ 12) (hq : 2 ≤ q) : CP (fun x S' => S' = S ∧ ∃ v : Bool, x = .bl v ∧ (v = true ↔ NearP k f a u)) .mk (callF T q f__law_near none [.tup [.int k, .int f, .int d, .int a, .int b, .int c], .int u] S) := by
  refine cp_run T__law_near rfl (by omega) ?_
  have b1 := big_of (i := (u : Int)) (by omega) (by omega)
  have b2 := big_of (i := ((k : Int) + u)) (by omega) (by omega)
  have b3 := big_of (i := ((k : Int))) (by omega) (by omega)
  have e1 : ((k : Int) + u - u).toNat = k := by omega
  have l1 := lots (q := q - 1) (H := span u k) (m := a) (S := S) (by rw [span_len]; exact hk) (by omega)
  have l2 := lots (q := q - 1) (H := span 0 k) (m := a) (S := S) (by rw [span_len]; exact hk) (by omega)
  simp only [↓wp_int, ↓wp_str, ↓wp_bl, ↓wp_non, ↓wp_gint, ↓wp_gcls, ↓wp_var, ↓wp_tup, ↓wp_lst, ↓wp_bin, ↓wp_neg, ↓wp_cmp, ↓wp_isc, ↓wp_chain, ↓wp_and, ↓wp_or, ↓wp_and1, ↓wp_and2, ↓wp_or1, ↓wp_or2, ↓wp_not, ↓wp_ifx, ↓wp_idx, ↓wp_slc, ↓wp_rev, ↓wp_fld, ↓wp_call, ↓wp_callk, ↓wp_new, ↓wp_bi, ↓wp_lrg, ↓wp_isi, ↓wp_mt, ↓wp_comp, ↓wp_gal, ↓wp_evP0, ↓wp_evP1, ↓wp_nil, ↓wp_cons, ↓wp_nilB, ↓wp_consB, ↓wp_ts0, ↓wp_ts1, ↓wo_lst, ↓wo_comp, ↓wo_lrg, ↓wo_list, ↓wo_sorted, ↓wo_rev, ↓wo_add, ↓wo_mul, ↓wi_seq, ↓wi_rng, ↓wi_enum, ↓wt_nm, ↓wt_tup, ↓wt_nil, ↓wt_cons, ↓wt_sub, ↓wt_fld, ↓ws_nil, ↓ws_asg, ↓ws_aown, ↓ws_par, ↓ws_expr, ↓ws_ret, ↓ws_retn, ↓ws_pas, ↓ws_doc, ↓ws_brk, ↓ws_cnt, ↓ws_iteN, ↓ws_ite, ↓ws_for, ↓ws_whl, srK_rt, srK_nx, srK_ct, mtX_popS, eq_nils, ne_nils, pk_nil', pk_cons', Option.toList_some, Option.toList_none, bin_powI, at_ibI, slcT_to, slcL_to, List.take_succ_cons, List.take_zero, Int.reduceNeg, Int.zero_add, setX_m1, wp_setFld, setFS_new, fld_ins, wp_compF, wp_forF, wipe_nil, wipe_cons, restore_nil, restore_cons, wip_nil, wip_cons, wipS_emp, wipS_val, tok_none, rng1, rng2, rng3, rngL1, rngL2, tok_lst, tok_tup, forK_nx, forK_ct, forK_bk, forK_rt, Bool.and_self, Bool.and_true, Bool.true_and, Int.reduceToNat, Int.toNat_natCast, Int.reduceSub, Nat.reduceSub, nums_len, wp_ok, wp_bad, wp_bind, wp_ret, wp_some, wp_none, wp_ifS, wp_ifSm, wp_ifSb, Bool.false_eq_true, wp_if, br_true, br_false, br_dec, br_not, cbr_true, cbr_false, cbr_dec, cbr_not, wp_ofRC, wp_blk, cp_ok, endK_rt, endK_nx, orc_n, orc_s, look_zero, look_succ, has_zero, has_succ, set_zero, set_succ, getS_val, getS_ownT, getS_ownF, getS_owniT, getS_owniF, view_slt, view_ref, viewS_own, viewS_owni, viewO_lst, viewO_ins, view_int, view_bl, view_str, view_non, view_tup, view_lst, view_ins, go_nx, go_rt, go_bk, go_ct, bin_addI, bin_subI, bin_mulI, bin_fdivI, bin_modI, bin_addT, bin_addL, cmp_eqI, cmp_neI, cmp_ltI, cmp_leI, cmp_gtI, cmp_geI, idx_lst, idx_tup, at_0, at_1, at_2, at_3, at_4, at_5, at_m1, len_lst, len_tup, bi_int, bi_abs, bi_intb, bi_max2, bi_min2, bi_min3, bi_tupL, bi_tupT, bi_lstL, bi_lstT, seq_lst, seq_tup, lst_lst, bl_bl, int_int, isN_int, isN_bl, isN_non, isN_tup, isN_lst, isN_str, isN_ins, isB_int, isB_tup, isB_non, isB_str, isB_tt, isB_tf, isB_ft, isB_ff, lix_n, lix_t, lix_f, Int.cast_ofNat_Int, in_lst, in_tup, nin_lst, nin_tup, srt_lst, srt_tup, eq_tups, isT_int, isT_tup, isT_lst, isT_str, isT_bl, isT_non, isT_ins, isT_nil, putS_own, putR_lst, wp_putS, wp_putR, wp_setSub, setX_0, setX_1, setX_2, setX_3, wp_mtD, mtX_pop, mtX_app, Option.map_some, Option.map_none, Option.bind_some, Option.bind_none, List.map_cons, List.map_nil, List.append_nil, List.nil_append, List.cons_append, List.replicate_succ, List.replicate_zero, true_and, and_true, if_true, if_false, ne_eq, not_true_eq_false, not_false_eq_true, Bool.not_true, Bool.not_false, forall_const, forall_false, implies_true, false_implies, true_implies, reduceCtorEq, List.set_set, mulOk_l, mulOk_r, Int.reduceEq, Int.reduceLT, Int.reduceLE, na_lit, na_neg, Nat.reduceLT, Nat.reduceLeDiff, and_self, List.length_cons, List.length_nil, Tgs.len, Nat.reduceAdd, Nat.reduceEqDiff, eq_self, decide_true, decide_false, List.getElem?_cons_zero, List.getElem?_cons_succ, Bool.and_false, Bool.false_and, Bool.or_true, Bool.or_false, Bool.true_or, Bool.false_or, and_assoc, fn__law_near, b__law_near, b1, b2, b3, e1, l1, l2]
  refine ⟨by omega, by omega, ?_⟩
  refine wp_search (φ := tupN) (Ls := lotsL (span 0 k) a) (fun A => ∃ B ∈ lotsL (span u k) a, both A B ≤ f) (fun w => ⟨[.val (.tup [.int k, .int f, .int d, .int a, .int b, .int c]), .val (.int u), .val (.lst ((lotsL (span u k) a).map tupN)), w, .val (.int k), .val (.int f), .val (.int d), .val (.int a), .val (.int b), .val (.int c), .emp, .emp], S⟩) .emp (fun _ => rfl) (fun A hA w => ?_) (fun w h => ?_) fun w h => ?_
  · simp only [↓wp_int, ↓wp_str, ↓wp_bl, ↓wp_non, ↓wp_gint, ↓wp_gcls, ↓wp_var, ↓wp_tup, ↓wp_lst, ↓wp_bin, ↓wp_neg, ↓wp_cmp, ↓wp_isc, ↓wp_chain, ↓wp_and, ↓wp_or, ↓wp_and1, ↓wp_and2, ↓wp_or1, ↓wp_or2, ↓wp_not, ↓wp_ifx, ↓wp_idx, ↓wp_slc, ↓wp_rev, ↓wp_fld, ↓wp_call, ↓wp_callk, ↓wp_new, ↓wp_bi, ↓wp_lrg, ↓wp_isi, ↓wp_mt, ↓wp_comp, ↓wp_gal, ↓wp_evP0, ↓wp_evP1, ↓wp_nil, ↓wp_cons, ↓wp_nilB, ↓wp_consB, ↓wp_ts0, ↓wp_ts1, ↓wo_lst, ↓wo_comp, ↓wo_lrg, ↓wo_list, ↓wo_sorted, ↓wo_rev, ↓wo_add, ↓wo_mul, ↓wi_seq, ↓wi_rng, ↓wi_enum, ↓wt_nm, ↓wt_tup, ↓wt_nil, ↓wt_cons, ↓wt_sub, ↓wt_fld, ↓ws_nil, ↓ws_asg, ↓ws_aown, ↓ws_par, ↓ws_expr, ↓ws_ret, ↓ws_retn, ↓ws_pas, ↓ws_doc, ↓ws_brk, ↓ws_cnt, ↓ws_iteN, ↓ws_ite, ↓ws_for, ↓ws_whl, srK_rt, srK_nx, srK_ct, mtX_popS, eq_nils, ne_nils, pk_nil', pk_cons', Option.toList_some, Option.toList_none, bin_powI, at_ibI, slcT_to, slcL_to, List.take_succ_cons, List.take_zero, Int.reduceNeg, Int.zero_add, setX_m1, wp_setFld, setFS_new, fld_ins, wp_compF, wp_forF, wipe_nil, wipe_cons, restore_nil, restore_cons, wip_nil, wip_cons, wipS_emp, wipS_val, tok_none, rng1, rng2, rng3, rngL1, rngL2, tok_lst, tok_tup, forK_nx, forK_ct, forK_bk, forK_rt, Bool.and_self, Bool.and_true, Bool.true_and, Int.reduceToNat, Int.toNat_natCast, Int.reduceSub, Nat.reduceSub, nums_len, wp_ok, wp_bad, wp_bind, wp_ret, wp_some, wp_none, wp_ifS, wp_ifSm, wp_ifSb, Bool.false_eq_true, wp_if, br_true, br_false, br_dec, br_not, cbr_true, cbr_false, cbr_dec, cbr_not, wp_ofRC, wp_blk, cp_ok, endK_rt, endK_nx, orc_n, orc_s, look_zero, look_succ, has_zero, has_succ, set_zero, set_succ, getS_val, getS_ownT, getS_ownF, getS_owniT, getS_owniF, view_slt, view_ref, viewS_own, viewS_owni, viewO_lst, viewO_ins, view_int, view_bl, view_str, view_non, view_tup, view_lst, view_ins, go_nx, go_rt, go_bk, go_ct, bin_addI, bin_subI, bin_mulI, bin_fdivI, bin_modI, bin_addT, bin_addL, cmp_eqI, cmp_neI, cmp_ltI, cmp_leI, cmp_gtI, cmp_geI, idx_lst, idx_tup, at_0, at_1, at_2, at_3, at_4, at_5, at_m1, len_lst, len_tup, bi_int, bi_abs, bi_intb, bi_max2, bi_min2, bi_min3, bi_tupL, bi_tupT, bi_lstL, bi_lstT, seq_lst, seq_tup, lst_lst, bl_bl, int_int, isN_int, isN_bl, isN_non, isN_tup, isN_lst, isN_str, isN_ins, isB_int, isB_tup, isB_non, isB_str, isB_tt, isB_tf, isB_ft, isB_ff, lix_n, lix_t, lix_f, Int.cast_ofNat_Int, in_lst, in_tup, nin_lst, nin_tup, srt_lst, srt_tup, eq_tups, isT_int, isT_tup, isT_lst, isT_str, isT_bl, isT_non, isT_ins, isT_nil, putS_own, putR_lst, wp_putS, wp_putR, wp_setSub, setX_0, setX_1, setX_2, setX_3, wp_mtD, mtX_pop, mtX_app, Option.map_some, Option.map_none, Option.bind_some, Option.bind_none, List.map_cons, List.map_nil, List.append_nil, List.nil_append, List.cons_append, List.replicate_succ, List.replicate_zero, true_and, and_true, if_true, if_false, ne_eq, not_true_eq_false, not_false_eq_true, Bool.not_true, Bool.not_false, forall_const, forall_false, implies_true, false_implies, true_implies, reduceCtorEq, List.set_set, mulOk_l, mulOk_r, Int.reduceEq, Int.reduceLT, Int.reduceLE, na_lit, na_neg, Nat.reduceLT, Nat.reduceLeDiff, and_self, List.length_cons, List.length_nil, Tgs.len, Nat.reduceAdd, Nat.reduceEqDiff, eq_self, decide_true, decide_false, List.getElem?_cons_zero, List.getElem?_cons_succ, Bool.and_false, Bool.false_and, Bool.or_true, Bool.or_false, Bool.true_or, Bool.false_or, and_assoc]
    refine wp_compI (φ := tupN) (Ls := lotsL (span u k) a) (fun B => some (.bl (decide (both A B ≤ f)))) (fun w => ⟨[.val (.tup [.int k, .int f, .int d, .int a, .int b, .int c]), .val (.int u), .val (.lst ((lotsL (span u k) a).map tupN)), .val (tupN A), .val (.int k), .val (.int f), .val (.int d), .val (.int a), .val (.int b), .val (.int c), w, .emp], S⟩) .emp (fun _ => rfl) (fun B hB w => ?_) fun w => ?_
    · simp only [↓wp_int, ↓wp_str, ↓wp_bl, ↓wp_non, ↓wp_gint, ↓wp_gcls, ↓wp_var, ↓wp_tup, ↓wp_lst, ↓wp_bin, ↓wp_neg, ↓wp_cmp, ↓wp_isc, ↓wp_chain, ↓wp_and, ↓wp_or, ↓wp_and1, ↓wp_and2, ↓wp_or1, ↓wp_or2, ↓wp_not, ↓wp_ifx, ↓wp_idx, ↓wp_slc, ↓wp_rev, ↓wp_fld, ↓wp_call, ↓wp_callk, ↓wp_new, ↓wp_bi, ↓wp_lrg, ↓wp_isi, ↓wp_mt, ↓wp_comp, ↓wp_gal, ↓wp_evP0, ↓wp_evP1, ↓wp_nil, ↓wp_cons, ↓wp_nilB, ↓wp_consB, ↓wp_ts0, ↓wp_ts1, ↓wo_lst, ↓wo_comp, ↓wo_lrg, ↓wo_list, ↓wo_sorted, ↓wo_rev, ↓wo_add, ↓wo_mul, ↓wi_seq, ↓wi_rng, ↓wi_enum, ↓wt_nm, ↓wt_tup, ↓wt_nil, ↓wt_cons, ↓wt_sub, ↓wt_fld, ↓ws_nil, ↓ws_asg, ↓ws_aown, ↓ws_par, ↓ws_expr, ↓ws_ret, ↓ws_retn, ↓ws_pas, ↓ws_doc, ↓ws_brk, ↓ws_cnt, ↓ws_iteN, ↓ws_ite, ↓ws_for, ↓ws_whl, srK_rt, srK_nx, srK_ct, mtX_popS, eq_nils, ne_nils, pk_nil', pk_cons', Option.toList_some, Option.toList_none, bin_powI, at_ibI, slcT_to, slcL_to, List.take_succ_cons, List.take_zero, Int.reduceNeg, Int.zero_add, setX_m1, wp_setFld, setFS_new, fld_ins, wp_compF, wp_forF, wipe_nil, wipe_cons, restore_nil, restore_cons, wip_nil, wip_cons, wipS_emp, wipS_val, tok_none, rng1, rng2, rng3, rngL1, rngL2, tok_lst, tok_tup, forK_nx, forK_ct, forK_bk, forK_rt, Bool.and_self, Bool.and_true, Bool.true_and, Int.reduceToNat, Int.toNat_natCast, Int.reduceSub, Nat.reduceSub, nums_len, wp_ok, wp_bad, wp_bind, wp_ret, wp_some, wp_none, wp_ifS, wp_ifSm, wp_ifSb, Bool.false_eq_true, wp_if, br_true, br_false, br_dec, br_not, cbr_true, cbr_false, cbr_dec, cbr_not, wp_ofRC, wp_blk, cp_ok, endK_rt, endK_nx, orc_n, orc_s, look_zero, look_succ, has_zero, has_succ, set_zero, set_succ, getS_val, getS_ownT, getS_ownF, getS_owniT, getS_owniF, view_slt, view_ref, viewS_own, viewS_owni, viewO_lst, viewO_ins, view_int, view_bl, view_str, view_non, view_tup, view_lst, view_ins, go_nx, go_rt, go_bk, go_ct, bin_addI, bin_subI, bin_mulI, bin_fdivI, bin_modI, bin_addT, bin_addL, cmp_eqI, cmp_neI, cmp_ltI, cmp_leI, cmp_gtI, cmp_geI, idx_lst, idx_tup, at_0, at_1, at_2, at_3, at_4, at_5, at_m1, len_lst, len_tup, bi_int, bi_abs, bi_intb, bi_max2, bi_min2, bi_min3, bi_tupL, bi_tupT, bi_lstL, bi_lstT, seq_lst, seq_tup, lst_lst, bl_bl, int_int, isN_int, isN_bl, isN_non, isN_tup, isN_lst, isN_str, isN_ins, isB_int, isB_tup, isB_non, isB_str, isB_tt, isB_tf, isB_ft, isB_ff, lix_n, lix_t, lix_f, Int.cast_ofNat_Int, in_lst, in_tup, nin_lst, nin_tup, srt_lst, srt_tup, eq_tups, isT_int, isT_tup, isT_lst, isT_str, isT_bl, isT_non, isT_ins, isT_nil, putS_own, putR_lst, wp_putS, wp_putR, wp_setSub, setX_0, setX_1, setX_2, setX_3, wp_mtD, mtX_pop, mtX_app, Option.map_some, Option.map_none, Option.bind_some, Option.bind_none, List.map_cons, List.map_nil, List.append_nil, List.nil_append, List.cons_append, List.replicate_succ, List.replicate_zero, true_and, and_true, if_true, if_false, ne_eq, not_true_eq_false, not_false_eq_true, Bool.not_true, Bool.not_false, forall_const, forall_false, implies_true, false_implies, true_implies, reduceCtorEq, List.set_set, mulOk_l, mulOk_r, Int.reduceEq, Int.reduceLT, Int.reduceLE, na_lit, na_neg, Nat.reduceLT, Nat.reduceLeDiff, and_self, List.length_cons, List.length_nil, Tgs.len, Nat.reduceAdd, Nat.reduceEqDiff, eq_self, decide_true, decide_false, List.getElem?_cons_zero, List.getElem?_cons_succ, Bool.and_false, Bool.false_and, Bool.or_true, Bool.or_false, Bool.true_or, Bool.false_or, and_assoc, tupN]
      refine wp_keep (fun x => decide (x ∈ B)) (fun w => ⟨[.val (.tup [.int k, .int f, .int d, .int a, .int b, .int c]), .val (.int u), .val (.lst ((lotsL (span u k) a).map tupN)), .val (.tup (nums A)), .val (.int k), .val (.int f), .val (.int d), .val (.int a), .val (.int b), .val (.int c), .val (.tup (nums B)), w], S⟩) .emp (fun _ => rfl) (fun x hx w => ?_) fun w => ?_
      · simp only [↓wp_int, ↓wp_str, ↓wp_bl, ↓wp_non, ↓wp_gint, ↓wp_gcls, ↓wp_var, ↓wp_tup, ↓wp_lst, ↓wp_bin, ↓wp_neg, ↓wp_cmp, ↓wp_isc, ↓wp_chain, ↓wp_and, ↓wp_or, ↓wp_and1, ↓wp_and2, ↓wp_or1, ↓wp_or2, ↓wp_not, ↓wp_ifx, ↓wp_idx, ↓wp_slc, ↓wp_rev, ↓wp_fld, ↓wp_call, ↓wp_callk, ↓wp_new, ↓wp_bi, ↓wp_lrg, ↓wp_isi, ↓wp_mt, ↓wp_comp, ↓wp_gal, ↓wp_evP0, ↓wp_evP1, ↓wp_nil, ↓wp_cons, ↓wp_nilB, ↓wp_consB, ↓wp_ts0, ↓wp_ts1, ↓wo_lst, ↓wo_comp, ↓wo_lrg, ↓wo_list, ↓wo_sorted, ↓wo_rev, ↓wo_add, ↓wo_mul, ↓wi_seq, ↓wi_rng, ↓wi_enum, ↓wt_nm, ↓wt_tup, ↓wt_nil, ↓wt_cons, ↓wt_sub, ↓wt_fld, ↓ws_nil, ↓ws_asg, ↓ws_aown, ↓ws_par, ↓ws_expr, ↓ws_ret, ↓ws_retn, ↓ws_pas, ↓ws_doc, ↓ws_brk, ↓ws_cnt, ↓ws_iteN, ↓ws_ite, ↓ws_for, ↓ws_whl, srK_rt, srK_nx, srK_ct, mtX_popS, eq_nils, ne_nils, pk_nil', pk_cons', Option.toList_some, Option.toList_none, bin_powI, at_ibI, slcT_to, slcL_to, List.take_succ_cons, List.take_zero, Int.reduceNeg, Int.zero_add, setX_m1, wp_setFld, setFS_new, fld_ins, wp_compF, wp_forF, wipe_nil, wipe_cons, restore_nil, restore_cons, wip_nil, wip_cons, wipS_emp, wipS_val, tok_none, rng1, rng2, rng3, rngL1, rngL2, tok_lst, tok_tup, forK_nx, forK_ct, forK_bk, forK_rt, Bool.and_self, Bool.and_true, Bool.true_and, Int.reduceToNat, Int.toNat_natCast, Int.reduceSub, Nat.reduceSub, nums_len, wp_ok, wp_bad, wp_bind, wp_ret, wp_some, wp_none, wp_ifS, wp_ifSm, wp_ifSb, Bool.false_eq_true, wp_if, br_true, br_false, br_dec, br_not, cbr_true, cbr_false, cbr_dec, cbr_not, wp_ofRC, wp_blk, cp_ok, endK_rt, endK_nx, orc_n, orc_s, look_zero, look_succ, has_zero, has_succ, set_zero, set_succ, getS_val, getS_ownT, getS_ownF, getS_owniT, getS_owniF, view_slt, view_ref, viewS_own, viewS_owni, viewO_lst, viewO_ins, view_int, view_bl, view_str, view_non, view_tup, view_lst, view_ins, go_nx, go_rt, go_bk, go_ct, bin_addI, bin_subI, bin_mulI, bin_fdivI, bin_modI, bin_addT, bin_addL, cmp_eqI, cmp_neI, cmp_ltI, cmp_leI, cmp_gtI, cmp_geI, idx_lst, idx_tup, at_0, at_1, at_2, at_3, at_4, at_5, at_m1, len_lst, len_tup, bi_int, bi_abs, bi_intb, bi_max2, bi_min2, bi_min3, bi_tupL, bi_tupT, bi_lstL, bi_lstT, seq_lst, seq_tup, lst_lst, bl_bl, int_int, isN_int, isN_bl, isN_non, isN_tup, isN_lst, isN_str, isN_ins, isB_int, isB_tup, isB_non, isB_str, isB_tt, isB_tf, isB_ft, isB_ff, lix_n, lix_t, lix_f, Int.cast_ofNat_Int, in_lst, in_tup, nin_lst, nin_tup, srt_lst, srt_tup, eq_tups, isT_int, isT_tup, isT_lst, isT_str, isT_bl, isT_non, isT_ins, isT_nil, putS_own, putR_lst, wp_putS, wp_putR, wp_setSub, setX_0, setX_1, setX_2, setX_3, wp_mtD, mtX_pop, mtX_app, Option.map_some, Option.map_none, Option.bind_some, Option.bind_none, List.map_cons, List.map_nil, List.append_nil, List.nil_append, List.cons_append, List.replicate_succ, List.replicate_zero, true_and, and_true, if_true, if_false, ne_eq, not_true_eq_false, not_false_eq_true, Bool.not_true, Bool.not_false, forall_const, forall_false, implies_true, false_implies, true_implies, reduceCtorEq, List.set_set, mulOk_l, mulOk_r, Int.reduceEq, Int.reduceLT, Int.reduceLE, na_lit, na_neg, Nat.reduceLT, Nat.reduceLeDiff, and_self, List.length_cons, List.length_nil, Tgs.len, Nat.reduceAdd, Nat.reduceEqDiff, eq_self, decide_true, decide_false, List.getElem?_cons_zero, List.getElem?_cons_succ, Bool.and_false, Bool.false_and, Bool.or_true, Bool.or_false, Bool.true_or, Bool.false_or, and_assoc]
        exact ⟨fun h => ⟨keep_yes (decide_eq_true h), _, rfl⟩, fun h => ⟨keep_no (decide_eq_false h), _, rfl⟩⟩
      · simp only [↓wp_int, ↓wp_str, ↓wp_bl, ↓wp_non, ↓wp_gint, ↓wp_gcls, ↓wp_var, ↓wp_tup, ↓wp_lst, ↓wp_bin, ↓wp_neg, ↓wp_cmp, ↓wp_isc, ↓wp_chain, ↓wp_and, ↓wp_or, ↓wp_and1, ↓wp_and2, ↓wp_or1, ↓wp_or2, ↓wp_not, ↓wp_ifx, ↓wp_idx, ↓wp_slc, ↓wp_rev, ↓wp_fld, ↓wp_call, ↓wp_callk, ↓wp_new, ↓wp_bi, ↓wp_lrg, ↓wp_isi, ↓wp_mt, ↓wp_comp, ↓wp_gal, ↓wp_evP0, ↓wp_evP1, ↓wp_nil, ↓wp_cons, ↓wp_nilB, ↓wp_consB, ↓wp_ts0, ↓wp_ts1, ↓wo_lst, ↓wo_comp, ↓wo_lrg, ↓wo_list, ↓wo_sorted, ↓wo_rev, ↓wo_add, ↓wo_mul, ↓wi_seq, ↓wi_rng, ↓wi_enum, ↓wt_nm, ↓wt_tup, ↓wt_nil, ↓wt_cons, ↓wt_sub, ↓wt_fld, ↓ws_nil, ↓ws_asg, ↓ws_aown, ↓ws_par, ↓ws_expr, ↓ws_ret, ↓ws_retn, ↓ws_pas, ↓ws_doc, ↓ws_brk, ↓ws_cnt, ↓ws_iteN, ↓ws_ite, ↓ws_for, ↓ws_whl, srK_rt, srK_nx, srK_ct, mtX_popS, eq_nils, ne_nils, pk_nil', pk_cons', Option.toList_some, Option.toList_none, bin_powI, at_ibI, slcT_to, slcL_to, List.take_succ_cons, List.take_zero, Int.reduceNeg, Int.zero_add, setX_m1, wp_setFld, setFS_new, fld_ins, wp_compF, wp_forF, wipe_nil, wipe_cons, restore_nil, restore_cons, wip_nil, wip_cons, wipS_emp, wipS_val, tok_none, rng1, rng2, rng3, rngL1, rngL2, tok_lst, tok_tup, forK_nx, forK_ct, forK_bk, forK_rt, Bool.and_self, Bool.and_true, Bool.true_and, Int.reduceToNat, Int.toNat_natCast, Int.reduceSub, Nat.reduceSub, nums_len, wp_ok, wp_bad, wp_bind, wp_ret, wp_some, wp_none, wp_ifS, wp_ifSm, wp_ifSb, Bool.false_eq_true, wp_if, br_true, br_false, br_dec, br_not, cbr_true, cbr_false, cbr_dec, cbr_not, wp_ofRC, wp_blk, cp_ok, endK_rt, endK_nx, orc_n, orc_s, look_zero, look_succ, has_zero, has_succ, set_zero, set_succ, getS_val, getS_ownT, getS_ownF, getS_owniT, getS_owniF, view_slt, view_ref, viewS_own, viewS_owni, viewO_lst, viewO_ins, view_int, view_bl, view_str, view_non, view_tup, view_lst, view_ins, go_nx, go_rt, go_bk, go_ct, bin_addI, bin_subI, bin_mulI, bin_fdivI, bin_modI, bin_addT, bin_addL, cmp_eqI, cmp_neI, cmp_ltI, cmp_leI, cmp_gtI, cmp_geI, idx_lst, idx_tup, at_0, at_1, at_2, at_3, at_4, at_5, at_m1, len_lst, len_tup, bi_int, bi_abs, bi_intb, bi_max2, bi_min2, bi_min3, bi_tupL, bi_tupT, bi_lstL, bi_lstT, seq_lst, seq_tup, lst_lst, bl_bl, int_int, isN_int, isN_bl, isN_non, isN_tup, isN_lst, isN_str, isN_ins, isB_int, isB_tup, isB_non, isB_str, isB_tt, isB_tf, isB_ft, isB_ff, lix_n, lix_t, lix_f, Int.cast_ofNat_Int, in_lst, in_tup, nin_lst, nin_tup, srt_lst, srt_tup, eq_tups, isT_int, isT_tup, isT_lst, isT_str, isT_bl, isT_non, isT_ins, isT_nil, putS_own, putR_lst, wp_putS, wp_putR, wp_setSub, setX_0, setX_1, setX_2, setX_3, wp_mtD, mtX_pop, mtX_app, Option.map_some, Option.map_none, Option.bind_some, Option.bind_none, List.map_cons, List.map_nil, List.append_nil, List.nil_append, List.cons_append, List.replicate_succ, List.replicate_zero, true_and, and_true, if_true, if_false, ne_eq, not_true_eq_false, not_false_eq_true, Bool.not_true, Bool.not_false, forall_const, forall_false, implies_true, false_implies, true_implies, reduceCtorEq, List.set_set, mulOk_l, mulOk_r, Int.reduceEq, Int.reduceLT, Int.reduceLE, na_lit, na_neg, Nat.reduceLT, Nat.reduceLeDiff, and_self, List.length_cons, List.length_nil, Tgs.len, Nat.reduceAdd, Nat.reduceEqDiff, eq_self, decide_true, decide_false, List.getElem?_cons_zero, List.getElem?_cons_succ, Bool.and_false, Bool.false_and, Bool.or_true, Bool.or_false, Bool.true_or, Bool.false_or, and_assoc]
        exact ⟨rfl, _, rfl⟩
    · have fm : (lotsL (span u k) a).filterMap (fun B => some (D.bl (decide (both A B ≤ f)))) = ((lotsL (span u k) a).map fun B => decide (both A B ≤ f)).map .bl := by
        rw [fm_some (h := fun B => D.bl (decide (both A B ≤ f))), List.map_map]; rfl
      rw [fm]
      have an : ((lotsL (span u k) a).map fun B => decide (both A B ≤ f)).any id = decide (∃ B ∈ lotsL (span u k) a, both A B ≤ f) := by
        rw [List.any_map, Bool.eq_iff_iff, List.any_eq_true, decide_eq_true_eq]
        simp
      simp only [↓wp_int, ↓wp_str, ↓wp_bl, ↓wp_non, ↓wp_gint, ↓wp_gcls, ↓wp_var, ↓wp_tup, ↓wp_lst, ↓wp_bin, ↓wp_neg, ↓wp_cmp, ↓wp_isc, ↓wp_chain, ↓wp_and, ↓wp_or, ↓wp_and1, ↓wp_and2, ↓wp_or1, ↓wp_or2, ↓wp_not, ↓wp_ifx, ↓wp_idx, ↓wp_slc, ↓wp_rev, ↓wp_fld, ↓wp_call, ↓wp_callk, ↓wp_new, ↓wp_bi, ↓wp_lrg, ↓wp_isi, ↓wp_mt, ↓wp_comp, ↓wp_gal, ↓wp_evP0, ↓wp_evP1, ↓wp_nil, ↓wp_cons, ↓wp_nilB, ↓wp_consB, ↓wp_ts0, ↓wp_ts1, ↓wo_lst, ↓wo_comp, ↓wo_lrg, ↓wo_list, ↓wo_sorted, ↓wo_rev, ↓wo_add, ↓wo_mul, ↓wi_seq, ↓wi_rng, ↓wi_enum, ↓wt_nm, ↓wt_tup, ↓wt_nil, ↓wt_cons, ↓wt_sub, ↓wt_fld, ↓ws_nil, ↓ws_asg, ↓ws_aown, ↓ws_par, ↓ws_expr, ↓ws_ret, ↓ws_retn, ↓ws_pas, ↓ws_doc, ↓ws_brk, ↓ws_cnt, ↓ws_iteN, ↓ws_ite, ↓ws_for, ↓ws_whl, srK_rt, srK_nx, srK_ct, mtX_popS, eq_nils, ne_nils, pk_nil', pk_cons', Option.toList_some, Option.toList_none, bin_powI, at_ibI, slcT_to, slcL_to, List.take_succ_cons, List.take_zero, Int.reduceNeg, Int.zero_add, setX_m1, wp_setFld, setFS_new, fld_ins, wp_compF, wp_forF, wipe_nil, wipe_cons, restore_nil, restore_cons, wip_nil, wip_cons, wipS_emp, wipS_val, tok_none, rng1, rng2, rng3, rngL1, rngL2, tok_lst, tok_tup, forK_nx, forK_ct, forK_bk, forK_rt, Bool.and_self, Bool.and_true, Bool.true_and, Int.reduceToNat, Int.toNat_natCast, Int.reduceSub, Nat.reduceSub, nums_len, wp_ok, wp_bad, wp_bind, wp_ret, wp_some, wp_none, wp_ifS, wp_ifSm, wp_ifSb, Bool.false_eq_true, wp_if, br_true, br_false, br_dec, br_not, cbr_true, cbr_false, cbr_dec, cbr_not, wp_ofRC, wp_blk, cp_ok, endK_rt, endK_nx, orc_n, orc_s, look_zero, look_succ, has_zero, has_succ, set_zero, set_succ, getS_val, getS_ownT, getS_ownF, getS_owniT, getS_owniF, view_slt, view_ref, viewS_own, viewS_owni, viewO_lst, viewO_ins, view_int, view_bl, view_str, view_non, view_tup, view_lst, view_ins, go_nx, go_rt, go_bk, go_ct, bin_addI, bin_subI, bin_mulI, bin_fdivI, bin_modI, bin_addT, bin_addL, cmp_eqI, cmp_neI, cmp_ltI, cmp_leI, cmp_gtI, cmp_geI, idx_lst, idx_tup, at_0, at_1, at_2, at_3, at_4, at_5, at_m1, len_lst, len_tup, bi_int, bi_abs, bi_intb, bi_max2, bi_min2, bi_min3, bi_tupL, bi_tupT, bi_lstL, bi_lstT, seq_lst, seq_tup, lst_lst, bl_bl, int_int, isN_int, isN_bl, isN_non, isN_tup, isN_lst, isN_str, isN_ins, isB_int, isB_tup, isB_non, isB_str, isB_tt, isB_tf, isB_ft, isB_ff, lix_n, lix_t, lix_f, Int.cast_ofNat_Int, in_lst, in_tup, nin_lst, nin_tup, srt_lst, srt_tup, eq_tups, isT_int, isT_tup, isT_lst, isT_str, isT_bl, isT_non, isT_ins, isT_nil, putS_own, putR_lst, wp_putS, wp_putR, wp_setSub, setX_0, setX_1, setX_2, setX_3, wp_mtD, mtX_pop, mtX_app, Option.map_some, Option.map_none, Option.bind_some, Option.bind_none, List.map_cons, List.map_nil, List.append_nil, List.nil_append, List.cons_append, List.replicate_succ, List.replicate_zero, true_and, and_true, if_true, if_false, ne_eq, not_true_eq_false, not_false_eq_true, Bool.not_true, Bool.not_false, forall_const, forall_false, implies_true, false_implies, true_implies, reduceCtorEq, List.set_set, mulOk_l, mulOk_r, Int.reduceEq, Int.reduceLT, Int.reduceLE, na_lit, na_neg, Nat.reduceLT, Nat.reduceLeDiff, and_self, List.length_cons, List.length_nil, Tgs.len, Nat.reduceAdd, Nat.reduceEqDiff, eq_self, decide_true, decide_false, List.getElem?_cons_zero, List.getElem?_cons_succ, Bool.and_false, Bool.false_and, Bool.or_true, Bool.or_false, Bool.true_or, Bool.false_or, and_assoc, any_bls, an]
      exact ⟨fun h => ⟨⟨_, rfl⟩, h⟩, fun h => ⟨⟨_, rfl⟩, h⟩⟩
  · simp only [↓wp_int, ↓wp_str, ↓wp_bl, ↓wp_non, ↓wp_gint, ↓wp_gcls, ↓wp_var, ↓wp_tup, ↓wp_lst, ↓wp_bin, ↓wp_neg, ↓wp_cmp, ↓wp_isc, ↓wp_chain, ↓wp_and, ↓wp_or, ↓wp_and1, ↓wp_and2, ↓wp_or1, ↓wp_or2, ↓wp_not, ↓wp_ifx, ↓wp_idx, ↓wp_slc, ↓wp_rev, ↓wp_fld, ↓wp_call, ↓wp_callk, ↓wp_new, ↓wp_bi, ↓wp_lrg, ↓wp_isi, ↓wp_mt, ↓wp_comp, ↓wp_gal, ↓wp_evP0, ↓wp_evP1, ↓wp_nil, ↓wp_cons, ↓wp_nilB, ↓wp_consB, ↓wp_ts0, ↓wp_ts1, ↓wo_lst, ↓wo_comp, ↓wo_lrg, ↓wo_list, ↓wo_sorted, ↓wo_rev, ↓wo_add, ↓wo_mul, ↓wi_seq, ↓wi_rng, ↓wi_enum, ↓wt_nm, ↓wt_tup, ↓wt_nil, ↓wt_cons, ↓wt_sub, ↓wt_fld, ↓ws_nil, ↓ws_asg, ↓ws_aown, ↓ws_par, ↓ws_expr, ↓ws_ret, ↓ws_retn, ↓ws_pas, ↓ws_doc, ↓ws_brk, ↓ws_cnt, ↓ws_iteN, ↓ws_ite, ↓ws_for, ↓ws_whl, srK_rt, srK_nx, srK_ct, mtX_popS, eq_nils, ne_nils, pk_nil', pk_cons', Option.toList_some, Option.toList_none, bin_powI, at_ibI, slcT_to, slcL_to, List.take_succ_cons, List.take_zero, Int.reduceNeg, Int.zero_add, setX_m1, wp_setFld, setFS_new, fld_ins, wp_compF, wp_forF, wipe_nil, wipe_cons, restore_nil, restore_cons, wip_nil, wip_cons, wipS_emp, wipS_val, tok_none, rng1, rng2, rng3, rngL1, rngL2, tok_lst, tok_tup, forK_nx, forK_ct, forK_bk, forK_rt, Bool.and_self, Bool.and_true, Bool.true_and, Int.reduceToNat, Int.toNat_natCast, Int.reduceSub, Nat.reduceSub, nums_len, wp_ok, wp_bad, wp_bind, wp_ret, wp_some, wp_none, wp_ifS, wp_ifSm, wp_ifSb, Bool.false_eq_true, wp_if, br_true, br_false, br_dec, br_not, cbr_true, cbr_false, cbr_dec, cbr_not, wp_ofRC, wp_blk, cp_ok, endK_rt, endK_nx, orc_n, orc_s, look_zero, look_succ, has_zero, has_succ, set_zero, set_succ, getS_val, getS_ownT, getS_ownF, getS_owniT, getS_owniF, view_slt, view_ref, viewS_own, viewS_owni, viewO_lst, viewO_ins, view_int, view_bl, view_str, view_non, view_tup, view_lst, view_ins, go_nx, go_rt, go_bk, go_ct, bin_addI, bin_subI, bin_mulI, bin_fdivI, bin_modI, bin_addT, bin_addL, cmp_eqI, cmp_neI, cmp_ltI, cmp_leI, cmp_gtI, cmp_geI, idx_lst, idx_tup, at_0, at_1, at_2, at_3, at_4, at_5, at_m1, len_lst, len_tup, bi_int, bi_abs, bi_intb, bi_max2, bi_min2, bi_min3, bi_tupL, bi_tupT, bi_lstL, bi_lstT, seq_lst, seq_tup, lst_lst, bl_bl, int_int, isN_int, isN_bl, isN_non, isN_tup, isN_lst, isN_str, isN_ins, isB_int, isB_tup, isB_non, isB_str, isB_tt, isB_tf, isB_ft, isB_ff, lix_n, lix_t, lix_f, Int.cast_ofNat_Int, in_lst, in_tup, nin_lst, nin_tup, srt_lst, srt_tup, eq_tups, isT_int, isT_tup, isT_lst, isT_str, isT_bl, isT_non, isT_ins, isT_nil, putS_own, putR_lst, wp_putS, wp_putR, wp_setSub, setX_0, setX_1, setX_2, setX_3, wp_mtD, mtX_pop, mtX_app, Option.map_some, Option.map_none, Option.bind_some, Option.bind_none, List.map_cons, List.map_nil, List.append_nil, List.nil_append, List.cons_append, List.replicate_succ, List.replicate_zero, true_and, and_true, if_true, if_false, ne_eq, not_true_eq_false, not_false_eq_true, Bool.not_true, Bool.not_false, forall_const, forall_false, implies_true, false_implies, true_implies, reduceCtorEq, List.set_set, mulOk_l, mulOk_r, Int.reduceEq, Int.reduceLT, Int.reduceLE, na_lit, na_neg, Nat.reduceLT, Nat.reduceLeDiff, and_self, List.length_cons, List.length_nil, Tgs.len, Nat.reduceAdd, Nat.reduceEqDiff, eq_self, decide_true, decide_false, List.getElem?_cons_zero, List.getElem?_cons_succ, Bool.and_false, Bool.false_and, Bool.or_true, Bool.or_false, Bool.true_or, Bool.false_or, and_assoc]
    exact ⟨true, rfl, by simp [NearP]; exact h⟩
  · simp only [↓wp_int, ↓wp_str, ↓wp_bl, ↓wp_non, ↓wp_gint, ↓wp_gcls, ↓wp_var, ↓wp_tup, ↓wp_lst, ↓wp_bin, ↓wp_neg, ↓wp_cmp, ↓wp_isc, ↓wp_chain, ↓wp_and, ↓wp_or, ↓wp_and1, ↓wp_and2, ↓wp_or1, ↓wp_or2, ↓wp_not, ↓wp_ifx, ↓wp_idx, ↓wp_slc, ↓wp_rev, ↓wp_fld, ↓wp_call, ↓wp_callk, ↓wp_new, ↓wp_bi, ↓wp_lrg, ↓wp_isi, ↓wp_mt, ↓wp_comp, ↓wp_gal, ↓wp_evP0, ↓wp_evP1, ↓wp_nil, ↓wp_cons, ↓wp_nilB, ↓wp_consB, ↓wp_ts0, ↓wp_ts1, ↓wo_lst, ↓wo_comp, ↓wo_lrg, ↓wo_list, ↓wo_sorted, ↓wo_rev, ↓wo_add, ↓wo_mul, ↓wi_seq, ↓wi_rng, ↓wi_enum, ↓wt_nm, ↓wt_tup, ↓wt_nil, ↓wt_cons, ↓wt_sub, ↓wt_fld, ↓ws_nil, ↓ws_asg, ↓ws_aown, ↓ws_par, ↓ws_expr, ↓ws_ret, ↓ws_retn, ↓ws_pas, ↓ws_doc, ↓ws_brk, ↓ws_cnt, ↓ws_iteN, ↓ws_ite, ↓ws_for, ↓ws_whl, srK_rt, srK_nx, srK_ct, mtX_popS, eq_nils, ne_nils, pk_nil', pk_cons', Option.toList_some, Option.toList_none, bin_powI, at_ibI, slcT_to, slcL_to, List.take_succ_cons, List.take_zero, Int.reduceNeg, Int.zero_add, setX_m1, wp_setFld, setFS_new, fld_ins, wp_compF, wp_forF, wipe_nil, wipe_cons, restore_nil, restore_cons, wip_nil, wip_cons, wipS_emp, wipS_val, tok_none, rng1, rng2, rng3, rngL1, rngL2, tok_lst, tok_tup, forK_nx, forK_ct, forK_bk, forK_rt, Bool.and_self, Bool.and_true, Bool.true_and, Int.reduceToNat, Int.toNat_natCast, Int.reduceSub, Nat.reduceSub, nums_len, wp_ok, wp_bad, wp_bind, wp_ret, wp_some, wp_none, wp_ifS, wp_ifSm, wp_ifSb, Bool.false_eq_true, wp_if, br_true, br_false, br_dec, br_not, cbr_true, cbr_false, cbr_dec, cbr_not, wp_ofRC, wp_blk, cp_ok, endK_rt, endK_nx, orc_n, orc_s, look_zero, look_succ, has_zero, has_succ, set_zero, set_succ, getS_val, getS_ownT, getS_ownF, getS_owniT, getS_owniF, view_slt, view_ref, viewS_own, viewS_owni, viewO_lst, viewO_ins, view_int, view_bl, view_str, view_non, view_tup, view_lst, view_ins, go_nx, go_rt, go_bk, go_ct, bin_addI, bin_subI, bin_mulI, bin_fdivI, bin_modI, bin_addT, bin_addL, cmp_eqI, cmp_neI, cmp_ltI, cmp_leI, cmp_gtI, cmp_geI, idx_lst, idx_tup, at_0, at_1, at_2, at_3, at_4, at_5, at_m1, len_lst, len_tup, bi_int, bi_abs, bi_intb, bi_max2, bi_min2, bi_min3, bi_tupL, bi_tupT, bi_lstL, bi_lstT, seq_lst, seq_tup, lst_lst, bl_bl, int_int, isN_int, isN_bl, isN_non, isN_tup, isN_lst, isN_str, isN_ins, isB_int, isB_tup, isB_non, isB_str, isB_tt, isB_tf, isB_ft, isB_ff, lix_n, lix_t, lix_f, Int.cast_ofNat_Int, in_lst, in_tup, nin_lst, nin_tup, srt_lst, srt_tup, eq_tups, isT_int, isT_tup, isT_lst, isT_str, isT_bl, isT_non, isT_ins, isT_nil, putS_own, putR_lst, wp_putS, wp_putR, wp_setSub, setX_0, setX_1, setX_2, setX_3, wp_mtD, mtX_pop, mtX_app, Option.map_some, Option.map_none, Option.bind_some, Option.bind_none, List.map_cons, List.map_nil, List.append_nil, List.nil_append, List.cons_append, List.replicate_succ, List.replicate_zero, true_and, and_true, if_true, if_false, ne_eq, not_true_eq_false, not_false_eq_true, Bool.not_true, Bool.not_false, forall_const, forall_false, implies_true, false_implies, true_implies, reduceCtorEq, List.set_set, mulOk_l, mulOk_r, Int.reduceEq, Int.reduceLT, Int.reduceLE, na_lit, na_neg, Nat.reduceLT, Nat.reduceLeDiff, and_self, List.length_cons, List.length_nil, Tgs.len, Nat.reduceAdd, Nat.reduceEqDiff, eq_self, decide_true, decide_false, List.getElem?_cons_zero, List.getElem?_cons_succ, Bool.and_false, Bool.false_and, Bool.or_true, Bool.or_false, Bool.true_or, Bool.false_or, and_assoc]
    exact ⟨false, rfl, by simp only [NearP, Bool.false_eq_true, false_iff]; exact h⟩
def FarP (k : Nat) (f a b c s : Int) (u : Nat) : Prop := ∃ l ∈ lotsL (span 0 k) (min k f), ∃ p ∈ lotsL (span 0 k) b, c ≤ k - max 0 (less p l - s) ∧ ∃ A ∈ lotsL (span 0 k) a, a ≤ k - max 0 (outs (span 0 k) l A p - u)
abbrev fE (k : Nat) (f d a b c s : Int) (u : Nat) (w4 w11 w12 w13 w14 w15 : Dn.Slot) (S : List Ob) : St := ⟨[.val (.tup [.int k, .int f, .int d, .int a, .int b, .int c]), .val (.int s), .val (.int u), .val (.lst (nums (span 0 k))), w4, .val (.int k), .val (.int f), .val (.int d), .val (.int a), .val (.int b), .val (.int c), w11, w12, w13, w14, w15], S⟩
theorem far {q k u : Nat} {f d a b c s : Int} {S : List Ob} (hk : k ≤ 12) (hu : u ≤ 12) (hq : 2 ≤ q) : CP (fun x S' => S' = S ∧ ∃ v : Bool, x = .bl v ∧ (v = true ↔ FarP k f a b c s u)) .mk (callF T q f__law_far none [.tup [.int k, .int f, .int d, .int a, .int b, .int c], .int s, .int u] S) := by
  refine cp_run T__law_far rfl (by omega) ?_
  have b3 := big_of (i := ((k : Int))) (by omega) (by omega)
  have l1 := lots (q := q - 1) (H := span 0 k) (m := min k f) (S := S) (by rw [span_len]; exact hk) (by omega)
  have l2 := lots (q := q - 1) (H := span 0 k) (m := b) (S := S) (by rw [span_len]; exact hk) (by omega)
  have l3 := lots (q := q - 1) (H := span 0 k) (m := a) (S := S) (by rw [span_len]; exact hk) (by omega)
  simp only [↓wp_int, ↓wp_str, ↓wp_bl, ↓wp_non, ↓wp_gint, ↓wp_gcls, ↓wp_var, ↓wp_tup, ↓wp_lst, ↓wp_bin, ↓wp_neg, ↓wp_cmp, ↓wp_isc, ↓wp_chain, ↓wp_and, ↓wp_or, ↓wp_and1, ↓wp_and2, ↓wp_or1, ↓wp_or2, ↓wp_not, ↓wp_ifx, ↓wp_idx, ↓wp_slc, ↓wp_rev, ↓wp_fld, ↓wp_call, ↓wp_callk, ↓wp_new, ↓wp_bi, ↓wp_lrg, ↓wp_isi, ↓wp_mt, ↓wp_comp, ↓wp_gal, ↓wp_evP0, ↓wp_evP1, ↓wp_nil, ↓wp_cons, ↓wp_nilB, ↓wp_consB, ↓wp_ts0, ↓wp_ts1, ↓wo_lst, ↓wo_comp, ↓wo_lrg, ↓wo_list, ↓wo_sorted, ↓wo_rev, ↓wo_add, ↓wo_mul, ↓wi_seq, ↓wi_rng, ↓wi_enum, ↓wt_nm, ↓wt_tup, ↓wt_nil, ↓wt_cons, ↓wt_sub, ↓wt_fld, ↓ws_nil, ↓ws_asg, ↓ws_aown, ↓ws_par, ↓ws_expr, ↓ws_ret, ↓ws_retn, ↓ws_pas, ↓ws_doc, ↓ws_brk, ↓ws_cnt, ↓ws_iteN, ↓ws_ite, ↓ws_for, ↓ws_whl, srK_rt, srK_nx, srK_ct, mtX_popS, eq_nils, ne_nils, pk_nil', pk_cons', Option.toList_some, Option.toList_none, bin_powI, at_ibI, slcT_to, slcL_to, List.take_succ_cons, List.take_zero, Int.reduceNeg, Int.zero_add, setX_m1, wp_setFld, setFS_new, fld_ins, wp_compF, wp_forF, wipe_nil, wipe_cons, restore_nil, restore_cons, wip_nil, wip_cons, wipS_emp, wipS_val, tok_none, rng1, rng2, rng3, rngL1, rngL2, tok_lst, tok_tup, forK_nx, forK_ct, forK_bk, forK_rt, Bool.and_self, Bool.and_true, Bool.true_and, Int.reduceToNat, Int.toNat_natCast, Int.reduceSub, Nat.reduceSub, nums_len, wp_ok, wp_bad, wp_bind, wp_ret, wp_some, wp_none, wp_ifS, wp_ifSm, wp_ifSb, Bool.false_eq_true, wp_if, br_true, br_false, br_dec, br_not, cbr_true, cbr_false, cbr_dec, cbr_not, wp_ofRC, wp_blk, cp_ok, endK_rt, endK_nx, orc_n, orc_s, look_zero, look_succ, has_zero, has_succ, set_zero, set_succ, getS_val, getS_ownT, getS_ownF, getS_owniT, getS_owniF, view_slt, view_ref, viewS_own, viewS_owni, viewO_lst, viewO_ins, view_int, view_bl, view_str, view_non, view_tup, view_lst, view_ins, go_nx, go_rt, go_bk, go_ct, bin_addI, bin_subI, bin_mulI, bin_fdivI, bin_modI, bin_addT, bin_addL, cmp_eqI, cmp_neI, cmp_ltI, cmp_leI, cmp_gtI, cmp_geI, idx_lst, idx_tup, at_0, at_1, at_2, at_3, at_4, at_5, at_m1, len_lst, len_tup, bi_int, bi_abs, bi_intb, bi_max2, bi_min2, bi_min3, bi_tupL, bi_tupT, bi_lstL, bi_lstT, seq_lst, seq_tup, lst_lst, bl_bl, int_int, isN_int, isN_bl, isN_non, isN_tup, isN_lst, isN_str, isN_ins, isB_int, isB_tup, isB_non, isB_str, isB_tt, isB_tf, isB_ft, isB_ff, lix_n, lix_t, lix_f, Int.cast_ofNat_Int, in_lst, in_tup, nin_lst, nin_tup, srt_lst, srt_tup, eq_tups, isT_int, isT_tup, isT_lst, isT_str, isT_bl, isT_non, isT_ins, isT_nil, putS_own, putR_lst, wp_putS, wp_putR, wp_setSub, setX_0, setX_1, setX_2, setX_3, wp_mtD, mtX_pop, mtX_app, Option.map_some, Option.map_none, Option.bind_some, Option.bind_none, List.map_cons, List.map_nil, List.append_nil, List.nil_append, List.cons_append, List.replicate_succ, List.replicate_zero, true_and, and_true, if_true, if_false, ne_eq, not_true_eq_false, not_false_eq_true, Bool.not_true, Bool.not_false, forall_const, forall_false, implies_true, false_implies, true_implies, reduceCtorEq, List.set_set, mulOk_l, mulOk_r, Int.reduceEq, Int.reduceLT, Int.reduceLE, na_lit, na_neg, Nat.reduceLT, Nat.reduceLeDiff, and_self, List.length_cons, List.length_nil, Tgs.len, Nat.reduceAdd, Nat.reduceEqDiff, eq_self, decide_true, decide_false, List.getElem?_cons_zero, List.getElem?_cons_succ, Bool.and_false, Bool.false_and, Bool.or_true, Bool.or_false, Bool.true_or, Bool.false_or, and_assoc, fn__law_far, b__law_far, b3, l1]
  refine ⟨by omega, ?_⟩
  refine wp_search (φ := tupN) (Ls := lotsL (span 0 k) (min k f)) (fun l => ∃ p ∈ lotsL (span 0 k) b, c ≤ k - max 0 (less p l - s) ∧ ∃ A ∈ lotsL (span 0 k) a, a ≤ k - max 0 (outs (span 0 k) l A p - u))
    (fun w : Dn.Slot × Dn.Slot × Dn.Slot × Dn.Slot × Dn.Slot => fE k f d a b c s u w.1 w.2.1 w.2.2.1 w.2.2.2.1 .emp w.2.2.2.2 S) (.emp, .emp, .emp, .emp, .emp) (fun _ => rfl) (fun l hl w => ?_) (fun w h => ?_) fun w h => ?_
  · simp only [↓wp_int, ↓wp_str, ↓wp_bl, ↓wp_non, ↓wp_gint, ↓wp_gcls, ↓wp_var, ↓wp_tup, ↓wp_lst, ↓wp_bin, ↓wp_neg, ↓wp_cmp, ↓wp_isc, ↓wp_chain, ↓wp_and, ↓wp_or, ↓wp_and1, ↓wp_and2, ↓wp_or1, ↓wp_or2, ↓wp_not, ↓wp_ifx, ↓wp_idx, ↓wp_slc, ↓wp_rev, ↓wp_fld, ↓wp_call, ↓wp_callk, ↓wp_new, ↓wp_bi, ↓wp_lrg, ↓wp_isi, ↓wp_mt, ↓wp_comp, ↓wp_gal, ↓wp_evP0, ↓wp_evP1, ↓wp_nil, ↓wp_cons, ↓wp_nilB, ↓wp_consB, ↓wp_ts0, ↓wp_ts1, ↓wo_lst, ↓wo_comp, ↓wo_lrg, ↓wo_list, ↓wo_sorted, ↓wo_rev, ↓wo_add, ↓wo_mul, ↓wi_seq, ↓wi_rng, ↓wi_enum, ↓wt_nm, ↓wt_tup, ↓wt_nil, ↓wt_cons, ↓wt_sub, ↓wt_fld, ↓ws_nil, ↓ws_asg, ↓ws_aown, ↓ws_par, ↓ws_expr, ↓ws_ret, ↓ws_retn, ↓ws_pas, ↓ws_doc, ↓ws_brk, ↓ws_cnt, ↓ws_iteN, ↓ws_ite, ↓ws_for, ↓ws_whl, srK_rt, srK_nx, srK_ct, mtX_popS, eq_nils, ne_nils, pk_nil', pk_cons', Option.toList_some, Option.toList_none, bin_powI, at_ibI, slcT_to, slcL_to, List.take_succ_cons, List.take_zero, Int.reduceNeg, Int.zero_add, setX_m1, wp_setFld, setFS_new, fld_ins, wp_compF, wp_forF, wipe_nil, wipe_cons, restore_nil, restore_cons, wip_nil, wip_cons, wipS_emp, wipS_val, tok_none, rng1, rng2, rng3, rngL1, rngL2, tok_lst, tok_tup, forK_nx, forK_ct, forK_bk, forK_rt, Bool.and_self, Bool.and_true, Bool.true_and, Int.reduceToNat, Int.toNat_natCast, Int.reduceSub, Nat.reduceSub, nums_len, wp_ok, wp_bad, wp_bind, wp_ret, wp_some, wp_none, wp_ifS, wp_ifSm, wp_ifSb, Bool.false_eq_true, wp_if, br_true, br_false, br_dec, br_not, cbr_true, cbr_false, cbr_dec, cbr_not, wp_ofRC, wp_blk, cp_ok, endK_rt, endK_nx, orc_n, orc_s, look_zero, look_succ, has_zero, has_succ, set_zero, set_succ, getS_val, getS_ownT, getS_ownF, getS_owniT, getS_owniF, view_slt, view_ref, viewS_own, viewS_owni, viewO_lst, viewO_ins, view_int, view_bl, view_str, view_non, view_tup, view_lst, view_ins, go_nx, go_rt, go_bk, go_ct, bin_addI, bin_subI, bin_mulI, bin_fdivI, bin_modI, bin_addT, bin_addL, cmp_eqI, cmp_neI, cmp_ltI, cmp_leI, cmp_gtI, cmp_geI, idx_lst, idx_tup, at_0, at_1, at_2, at_3, at_4, at_5, at_m1, len_lst, len_tup, bi_int, bi_abs, bi_intb, bi_max2, bi_min2, bi_min3, bi_tupL, bi_tupT, bi_lstL, bi_lstT, seq_lst, seq_tup, lst_lst, bl_bl, int_int, isN_int, isN_bl, isN_non, isN_tup, isN_lst, isN_str, isN_ins, isB_int, isB_tup, isB_non, isB_str, isB_tt, isB_tf, isB_ft, isB_ff, lix_n, lix_t, lix_f, Int.cast_ofNat_Int, in_lst, in_tup, nin_lst, nin_tup, srt_lst, srt_tup, eq_tups, isT_int, isT_tup, isT_lst, isT_str, isT_bl, isT_non, isT_ins, isT_nil, putS_own, putR_lst, wp_putS, wp_putR, wp_setSub, setX_0, setX_1, setX_2, setX_3, wp_mtD, mtX_pop, mtX_app, Option.map_some, Option.map_none, Option.bind_some, Option.bind_none, List.map_cons, List.map_nil, List.append_nil, List.nil_append, List.cons_append, List.replicate_succ, List.replicate_zero, true_and, and_true, if_true, if_false, ne_eq, not_true_eq_false, not_false_eq_true, Bool.not_true, Bool.not_false, forall_const, forall_false, implies_true, false_implies, true_implies, reduceCtorEq, List.set_set, mulOk_l, mulOk_r, Int.reduceEq, Int.reduceLT, Int.reduceLE, na_lit, na_neg, Nat.reduceLT, Nat.reduceLeDiff, and_self, List.length_cons, List.length_nil, Tgs.len, Nat.reduceAdd, Nat.reduceEqDiff, eq_self, decide_true, decide_false, List.getElem?_cons_zero, List.getElem?_cons_succ, Bool.and_false, Bool.false_and, Bool.or_true, Bool.or_false, Bool.true_or, Bool.false_or, and_assoc, l2, fE]
    refine wp_search (φ := tupN) (Ls := lotsL (span 0 k) b) (fun p => c ≤ k - max 0 (less p l - s) ∧ ∃ A ∈ lotsL (span 0 k) a, a ≤ k - max 0 (outs (span 0 k) l A p - u))
      (fun w : Dn.Slot × Dn.Slot × Dn.Slot × Dn.Slot => fE k f d a b c s u (.val (tupN l)) w.1 w.2.1 w.2.2.1 .emp w.2.2.2 S) (w.2.1, w.2.2.1, w.2.2.2.1, w.2.2.2.2) (fun _ => rfl) (fun p hp w => ?_) (fun w h => ?_) fun w h => ?_
    · simp only [↓wp_int, ↓wp_str, ↓wp_bl, ↓wp_non, ↓wp_gint, ↓wp_gcls, ↓wp_var, ↓wp_tup, ↓wp_lst, ↓wp_bin, ↓wp_neg, ↓wp_cmp, ↓wp_isc, ↓wp_chain, ↓wp_and, ↓wp_or, ↓wp_and1, ↓wp_and2, ↓wp_or1, ↓wp_or2, ↓wp_not, ↓wp_ifx, ↓wp_idx, ↓wp_slc, ↓wp_rev, ↓wp_fld, ↓wp_call, ↓wp_callk, ↓wp_new, ↓wp_bi, ↓wp_lrg, ↓wp_isi, ↓wp_mt, ↓wp_comp, ↓wp_gal, ↓wp_evP0, ↓wp_evP1, ↓wp_nil, ↓wp_cons, ↓wp_nilB, ↓wp_consB, ↓wp_ts0, ↓wp_ts1, ↓wo_lst, ↓wo_comp, ↓wo_lrg, ↓wo_list, ↓wo_sorted, ↓wo_rev, ↓wo_add, ↓wo_mul, ↓wi_seq, ↓wi_rng, ↓wi_enum, ↓wt_nm, ↓wt_tup, ↓wt_nil, ↓wt_cons, ↓wt_sub, ↓wt_fld, ↓ws_nil, ↓ws_asg, ↓ws_aown, ↓ws_par, ↓ws_expr, ↓ws_ret, ↓ws_retn, ↓ws_pas, ↓ws_doc, ↓ws_brk, ↓ws_cnt, ↓ws_iteN, ↓ws_ite, ↓ws_for, ↓ws_whl, srK_rt, srK_nx, srK_ct, mtX_popS, eq_nils, ne_nils, pk_nil', pk_cons', Option.toList_some, Option.toList_none, bin_powI, at_ibI, slcT_to, slcL_to, List.take_succ_cons, List.take_zero, Int.reduceNeg, Int.zero_add, setX_m1, wp_setFld, setFS_new, fld_ins, wp_compF, wp_forF, wipe_nil, wipe_cons, restore_nil, restore_cons, wip_nil, wip_cons, wipS_emp, wipS_val, tok_none, rng1, rng2, rng3, rngL1, rngL2, tok_lst, tok_tup, forK_nx, forK_ct, forK_bk, forK_rt, Bool.and_self, Bool.and_true, Bool.true_and, Int.reduceToNat, Int.toNat_natCast, Int.reduceSub, Nat.reduceSub, nums_len, wp_ok, wp_bad, wp_bind, wp_ret, wp_some, wp_none, wp_ifS, wp_ifSm, wp_ifSb, Bool.false_eq_true, wp_if, br_true, br_false, br_dec, br_not, cbr_true, cbr_false, cbr_dec, cbr_not, wp_ofRC, wp_blk, cp_ok, endK_rt, endK_nx, orc_n, orc_s, look_zero, look_succ, has_zero, has_succ, set_zero, set_succ, getS_val, getS_ownT, getS_ownF, getS_owniT, getS_owniF, view_slt, view_ref, viewS_own, viewS_owni, viewO_lst, viewO_ins, view_int, view_bl, view_str, view_non, view_tup, view_lst, view_ins, go_nx, go_rt, go_bk, go_ct, bin_addI, bin_subI, bin_mulI, bin_fdivI, bin_modI, bin_addT, bin_addL, cmp_eqI, cmp_neI, cmp_ltI, cmp_leI, cmp_gtI, cmp_geI, idx_lst, idx_tup, at_0, at_1, at_2, at_3, at_4, at_5, at_m1, len_lst, len_tup, bi_int, bi_abs, bi_intb, bi_max2, bi_min2, bi_min3, bi_tupL, bi_tupT, bi_lstL, bi_lstT, seq_lst, seq_tup, lst_lst, bl_bl, int_int, isN_int, isN_bl, isN_non, isN_tup, isN_lst, isN_str, isN_ins, isB_int, isB_tup, isB_non, isB_str, isB_tt, isB_tf, isB_ft, isB_ff, lix_n, lix_t, lix_f, Int.cast_ofNat_Int, in_lst, in_tup, nin_lst, nin_tup, srt_lst, srt_tup, eq_tups, isT_int, isT_tup, isT_lst, isT_str, isT_bl, isT_non, isT_ins, isT_nil, putS_own, putR_lst, wp_putS, wp_putR, wp_setSub, setX_0, setX_1, setX_2, setX_3, wp_mtD, mtX_pop, mtX_app, Option.map_some, Option.map_none, Option.bind_some, Option.bind_none, List.map_cons, List.map_nil, List.append_nil, List.nil_append, List.cons_append, List.replicate_succ, List.replicate_zero, true_and, and_true, if_true, if_false, ne_eq, not_true_eq_false, not_false_eq_true, Bool.not_true, Bool.not_false, forall_const, forall_false, implies_true, false_implies, true_implies, reduceCtorEq, List.set_set, mulOk_l, mulOk_r, Int.reduceEq, Int.reduceLT, Int.reduceLE, na_lit, na_neg, Nat.reduceLT, Nat.reduceLeDiff, and_self, List.length_cons, List.length_nil, Tgs.len, Nat.reduceAdd, Nat.reduceEqDiff, eq_self, decide_true, decide_false, List.getElem?_cons_zero, List.getElem?_cons_succ, Bool.and_false, Bool.false_and, Bool.or_true, Bool.or_false, Bool.true_or, Bool.false_or, and_assoc, fE, tupN]
      refine wp_keep (fun x => !decide (x ∈ l)) (fun v => fE k f d a b c s u (.val (tupN l)) (.val (tupN p)) w.2.1 w.2.2.1 v w.2.2.2 S) .emp (fun _ => rfl) (fun x hx v => ?_) fun v => ?_
      · simp only [↓wp_int, ↓wp_str, ↓wp_bl, ↓wp_non, ↓wp_gint, ↓wp_gcls, ↓wp_var, ↓wp_tup, ↓wp_lst, ↓wp_bin, ↓wp_neg, ↓wp_cmp, ↓wp_isc, ↓wp_chain, ↓wp_and, ↓wp_or, ↓wp_and1, ↓wp_and2, ↓wp_or1, ↓wp_or2, ↓wp_not, ↓wp_ifx, ↓wp_idx, ↓wp_slc, ↓wp_rev, ↓wp_fld, ↓wp_call, ↓wp_callk, ↓wp_new, ↓wp_bi, ↓wp_lrg, ↓wp_isi, ↓wp_mt, ↓wp_comp, ↓wp_gal, ↓wp_evP0, ↓wp_evP1, ↓wp_nil, ↓wp_cons, ↓wp_nilB, ↓wp_consB, ↓wp_ts0, ↓wp_ts1, ↓wo_lst, ↓wo_comp, ↓wo_lrg, ↓wo_list, ↓wo_sorted, ↓wo_rev, ↓wo_add, ↓wo_mul, ↓wi_seq, ↓wi_rng, ↓wi_enum, ↓wt_nm, ↓wt_tup, ↓wt_nil, ↓wt_cons, ↓wt_sub, ↓wt_fld, ↓ws_nil, ↓ws_asg, ↓ws_aown, ↓ws_par, ↓ws_expr, ↓ws_ret, ↓ws_retn, ↓ws_pas, ↓ws_doc, ↓ws_brk, ↓ws_cnt, ↓ws_iteN, ↓ws_ite, ↓ws_for, ↓ws_whl, srK_rt, srK_nx, srK_ct, mtX_popS, eq_nils, ne_nils, pk_nil', pk_cons', Option.toList_some, Option.toList_none, bin_powI, at_ibI, slcT_to, slcL_to, List.take_succ_cons, List.take_zero, Int.reduceNeg, Int.zero_add, setX_m1, wp_setFld, setFS_new, fld_ins, wp_compF, wp_forF, wipe_nil, wipe_cons, restore_nil, restore_cons, wip_nil, wip_cons, wipS_emp, wipS_val, tok_none, rng1, rng2, rng3, rngL1, rngL2, tok_lst, tok_tup, forK_nx, forK_ct, forK_bk, forK_rt, Bool.and_self, Bool.and_true, Bool.true_and, Int.reduceToNat, Int.toNat_natCast, Int.reduceSub, Nat.reduceSub, nums_len, wp_ok, wp_bad, wp_bind, wp_ret, wp_some, wp_none, wp_ifS, wp_ifSm, wp_ifSb, Bool.false_eq_true, wp_if, br_true, br_false, br_dec, br_not, cbr_true, cbr_false, cbr_dec, cbr_not, wp_ofRC, wp_blk, cp_ok, endK_rt, endK_nx, orc_n, orc_s, look_zero, look_succ, has_zero, has_succ, set_zero, set_succ, getS_val, getS_ownT, getS_ownF, getS_owniT, getS_owniF, view_slt, view_ref, viewS_own, viewS_owni, viewO_lst, viewO_ins, view_int, view_bl, view_str, view_non, view_tup, view_lst, view_ins, go_nx, go_rt, go_bk, go_ct, bin_addI, bin_subI, bin_mulI, bin_fdivI, bin_modI, bin_addT, bin_addL, cmp_eqI, cmp_neI, cmp_ltI, cmp_leI, cmp_gtI, cmp_geI, idx_lst, idx_tup, at_0, at_1, at_2, at_3, at_4, at_5, at_m1, len_lst, len_tup, bi_int, bi_abs, bi_intb, bi_max2, bi_min2, bi_min3, bi_tupL, bi_tupT, bi_lstL, bi_lstT, seq_lst, seq_tup, lst_lst, bl_bl, int_int, isN_int, isN_bl, isN_non, isN_tup, isN_lst, isN_str, isN_ins, isB_int, isB_tup, isB_non, isB_str, isB_tt, isB_tf, isB_ft, isB_ff, lix_n, lix_t, lix_f, Int.cast_ofNat_Int, in_lst, in_tup, nin_lst, nin_tup, srt_lst, srt_tup, eq_tups, isT_int, isT_tup, isT_lst, isT_str, isT_bl, isT_non, isT_ins, isT_nil, putS_own, putR_lst, wp_putS, wp_putR, wp_setSub, setX_0, setX_1, setX_2, setX_3, wp_mtD, mtX_pop, mtX_app, Option.map_some, Option.map_none, Option.bind_some, Option.bind_none, List.map_cons, List.map_nil, List.append_nil, List.nil_append, List.cons_append, List.replicate_succ, List.replicate_zero, true_and, and_true, if_true, if_false, ne_eq, not_true_eq_false, not_false_eq_true, Bool.not_true, Bool.not_false, forall_const, forall_false, implies_true, false_implies, true_implies, reduceCtorEq, List.set_set, mulOk_l, mulOk_r, Int.reduceEq, Int.reduceLT, Int.reduceLE, na_lit, na_neg, Nat.reduceLT, Nat.reduceLeDiff, and_self, List.length_cons, List.length_nil, Tgs.len, Nat.reduceAdd, Nat.reduceEqDiff, eq_self, decide_true, decide_false, List.getElem?_cons_zero, List.getElem?_cons_succ, Bool.and_false, Bool.false_and, Bool.or_true, Bool.or_false, Bool.true_or, Bool.false_or, and_assoc, fE, tupN]
        exact ⟨fun h => ⟨keep_yes (by simp [h]), _, rfl⟩, fun h => ⟨keep_no (by simp [h]), _, rfl⟩⟩
      · simp only [↓wp_int, ↓wp_str, ↓wp_bl, ↓wp_non, ↓wp_gint, ↓wp_gcls, ↓wp_var, ↓wp_tup, ↓wp_lst, ↓wp_bin, ↓wp_neg, ↓wp_cmp, ↓wp_isc, ↓wp_chain, ↓wp_and, ↓wp_or, ↓wp_and1, ↓wp_and2, ↓wp_or1, ↓wp_or2, ↓wp_not, ↓wp_ifx, ↓wp_idx, ↓wp_slc, ↓wp_rev, ↓wp_fld, ↓wp_call, ↓wp_callk, ↓wp_new, ↓wp_bi, ↓wp_lrg, ↓wp_isi, ↓wp_mt, ↓wp_comp, ↓wp_gal, ↓wp_evP0, ↓wp_evP1, ↓wp_nil, ↓wp_cons, ↓wp_nilB, ↓wp_consB, ↓wp_ts0, ↓wp_ts1, ↓wo_lst, ↓wo_comp, ↓wo_lrg, ↓wo_list, ↓wo_sorted, ↓wo_rev, ↓wo_add, ↓wo_mul, ↓wi_seq, ↓wi_rng, ↓wi_enum, ↓wt_nm, ↓wt_tup, ↓wt_nil, ↓wt_cons, ↓wt_sub, ↓wt_fld, ↓ws_nil, ↓ws_asg, ↓ws_aown, ↓ws_par, ↓ws_expr, ↓ws_ret, ↓ws_retn, ↓ws_pas, ↓ws_doc, ↓ws_brk, ↓ws_cnt, ↓ws_iteN, ↓ws_ite, ↓ws_for, ↓ws_whl, srK_rt, srK_nx, srK_ct, mtX_popS, eq_nils, ne_nils, pk_nil', pk_cons', Option.toList_some, Option.toList_none, bin_powI, at_ibI, slcT_to, slcL_to, List.take_succ_cons, List.take_zero, Int.reduceNeg, Int.zero_add, setX_m1, wp_setFld, setFS_new, fld_ins, wp_compF, wp_forF, wipe_nil, wipe_cons, restore_nil, restore_cons, wip_nil, wip_cons, wipS_emp, wipS_val, tok_none, rng1, rng2, rng3, rngL1, rngL2, tok_lst, tok_tup, forK_nx, forK_ct, forK_bk, forK_rt, Bool.and_self, Bool.and_true, Bool.true_and, Int.reduceToNat, Int.toNat_natCast, Int.reduceSub, Nat.reduceSub, nums_len, wp_ok, wp_bad, wp_bind, wp_ret, wp_some, wp_none, wp_ifS, wp_ifSm, wp_ifSb, Bool.false_eq_true, wp_if, br_true, br_false, br_dec, br_not, cbr_true, cbr_false, cbr_dec, cbr_not, wp_ofRC, wp_blk, cp_ok, endK_rt, endK_nx, orc_n, orc_s, look_zero, look_succ, has_zero, has_succ, set_zero, set_succ, getS_val, getS_ownT, getS_ownF, getS_owniT, getS_owniF, view_slt, view_ref, viewS_own, viewS_owni, viewO_lst, viewO_ins, view_int, view_bl, view_str, view_non, view_tup, view_lst, view_ins, go_nx, go_rt, go_bk, go_ct, bin_addI, bin_subI, bin_mulI, bin_fdivI, bin_modI, bin_addT, bin_addL, cmp_eqI, cmp_neI, cmp_ltI, cmp_leI, cmp_gtI, cmp_geI, idx_lst, idx_tup, at_0, at_1, at_2, at_3, at_4, at_5, at_m1, len_lst, len_tup, bi_int, bi_abs, bi_intb, bi_max2, bi_min2, bi_min3, bi_tupL, bi_tupT, bi_lstL, bi_lstT, seq_lst, seq_tup, lst_lst, bl_bl, int_int, isN_int, isN_bl, isN_non, isN_tup, isN_lst, isN_str, isN_ins, isB_int, isB_tup, isB_non, isB_str, isB_tt, isB_tf, isB_ft, isB_ff, lix_n, lix_t, lix_f, Int.cast_ofNat_Int, in_lst, in_tup, nin_lst, nin_tup, srt_lst, srt_tup, eq_tups, isT_int, isT_tup, isT_lst, isT_str, isT_bl, isT_non, isT_ins, isT_nil, putS_own, putR_lst, wp_putS, wp_putR, wp_setSub, setX_0, setX_1, setX_2, setX_3, wp_mtD, mtX_pop, mtX_app, Option.map_some, Option.map_none, Option.bind_some, Option.bind_none, List.map_cons, List.map_nil, List.append_nil, List.nil_append, List.cons_append, List.replicate_succ, List.replicate_zero, true_and, and_true, if_true, if_false, ne_eq, not_true_eq_false, not_false_eq_true, Bool.not_true, Bool.not_false, forall_const, forall_false, implies_true, false_implies, true_implies, reduceCtorEq, List.set_set, mulOk_l, mulOk_r, Int.reduceEq, Int.reduceLT, Int.reduceLE, na_lit, na_neg, Nat.reduceLT, Nat.reduceLeDiff, and_self, List.length_cons, List.length_nil, Tgs.len, Nat.reduceAdd, Nat.reduceEqDiff, eq_self, decide_true, decide_false, List.getElem?_cons_zero, List.getElem?_cons_succ, Bool.and_false, Bool.false_and, Bool.or_true, Bool.or_false, Bool.true_or, Bool.false_or, and_assoc, fE, l3]
        refine ⟨fun h1 => ?_, fun h1 => ⟨⟨(_, _, _, _), rfl⟩, fun h => h1 h.1⟩⟩
        refine wp_search (φ := tupN) (Ls := lotsL (span 0 k) a) (fun A => a ≤ k - max 0 (outs (span 0 k) l A p - u))
          (fun v : Dn.Slot × Dn.Slot => fE k f d a b c s u (.val (tupN l)) (.val (tupN p)) (.val (.lst (nums (p.filter fun x => !decide (x ∈ l))))) v.1 .emp v.2 S) (w.2.2.1, w.2.2.2) (fun _ => rfl) (fun A hA v => ?_) (fun v h => ?_) fun v h => ?_
        · simp only [↓wp_int, ↓wp_str, ↓wp_bl, ↓wp_non, ↓wp_gint, ↓wp_gcls, ↓wp_var, ↓wp_tup, ↓wp_lst, ↓wp_bin, ↓wp_neg, ↓wp_cmp, ↓wp_isc, ↓wp_chain, ↓wp_and, ↓wp_or, ↓wp_and1, ↓wp_and2, ↓wp_or1, ↓wp_or2, ↓wp_not, ↓wp_ifx, ↓wp_idx, ↓wp_slc, ↓wp_rev, ↓wp_fld, ↓wp_call, ↓wp_callk, ↓wp_new, ↓wp_bi, ↓wp_lrg, ↓wp_isi, ↓wp_mt, ↓wp_comp, ↓wp_gal, ↓wp_evP0, ↓wp_evP1, ↓wp_nil, ↓wp_cons, ↓wp_nilB, ↓wp_consB, ↓wp_ts0, ↓wp_ts1, ↓wo_lst, ↓wo_comp, ↓wo_lrg, ↓wo_list, ↓wo_sorted, ↓wo_rev, ↓wo_add, ↓wo_mul, ↓wi_seq, ↓wi_rng, ↓wi_enum, ↓wt_nm, ↓wt_tup, ↓wt_nil, ↓wt_cons, ↓wt_sub, ↓wt_fld, ↓ws_nil, ↓ws_asg, ↓ws_aown, ↓ws_par, ↓ws_expr, ↓ws_ret, ↓ws_retn, ↓ws_pas, ↓ws_doc, ↓ws_brk, ↓ws_cnt, ↓ws_iteN, ↓ws_ite, ↓ws_for, ↓ws_whl, srK_rt, srK_nx, srK_ct, mtX_popS, eq_nils, ne_nils, pk_nil', pk_cons', Option.toList_some, Option.toList_none, bin_powI, at_ibI, slcT_to, slcL_to, List.take_succ_cons, List.take_zero, Int.reduceNeg, Int.zero_add, setX_m1, wp_setFld, setFS_new, fld_ins, wp_compF, wp_forF, wipe_nil, wipe_cons, restore_nil, restore_cons, wip_nil, wip_cons, wipS_emp, wipS_val, tok_none, rng1, rng2, rng3, rngL1, rngL2, tok_lst, tok_tup, forK_nx, forK_ct, forK_bk, forK_rt, Bool.and_self, Bool.and_true, Bool.true_and, Int.reduceToNat, Int.toNat_natCast, Int.reduceSub, Nat.reduceSub, nums_len, wp_ok, wp_bad, wp_bind, wp_ret, wp_some, wp_none, wp_ifS, wp_ifSm, wp_ifSb, Bool.false_eq_true, wp_if, br_true, br_false, br_dec, br_not, cbr_true, cbr_false, cbr_dec, cbr_not, wp_ofRC, wp_blk, cp_ok, endK_rt, endK_nx, orc_n, orc_s, look_zero, look_succ, has_zero, has_succ, set_zero, set_succ, getS_val, getS_ownT, getS_ownF, getS_owniT, getS_owniF, view_slt, view_ref, viewS_own, viewS_owni, viewO_lst, viewO_ins, view_int, view_bl, view_str, view_non, view_tup, view_lst, view_ins, go_nx, go_rt, go_bk, go_ct, bin_addI, bin_subI, bin_mulI, bin_fdivI, bin_modI, bin_addT, bin_addL, cmp_eqI, cmp_neI, cmp_ltI, cmp_leI, cmp_gtI, cmp_geI, idx_lst, idx_tup, at_0, at_1, at_2, at_3, at_4, at_5, at_m1, len_lst, len_tup, bi_int, bi_abs, bi_intb, bi_max2, bi_min2, bi_min3, bi_tupL, bi_tupT, bi_lstL, bi_lstT, seq_lst, seq_tup, lst_lst, bl_bl, int_int, isN_int, isN_bl, isN_non, isN_tup, isN_lst, isN_str, isN_ins, isB_int, isB_tup, isB_non, isB_str, isB_tt, isB_tf, isB_ft, isB_ff, lix_n, lix_t, lix_f, Int.cast_ofNat_Int, in_lst, in_tup, nin_lst, nin_tup, srt_lst, srt_tup, eq_tups, isT_int, isT_tup, isT_lst, isT_str, isT_bl, isT_non, isT_ins, isT_nil, putS_own, putR_lst, wp_putS, wp_putR, wp_setSub, setX_0, setX_1, setX_2, setX_3, wp_mtD, mtX_pop, mtX_app, Option.map_some, Option.map_none, Option.bind_some, Option.bind_none, List.map_cons, List.map_nil, List.append_nil, List.nil_append, List.cons_append, List.replicate_succ, List.replicate_zero, true_and, and_true, if_true, if_false, ne_eq, not_true_eq_false, not_false_eq_true, Bool.not_true, Bool.not_false, forall_const, forall_false, implies_true, false_implies, true_implies, reduceCtorEq, List.set_set, mulOk_l, mulOk_r, Int.reduceEq, Int.reduceLT, Int.reduceLE, na_lit, na_neg, Nat.reduceLT, Nat.reduceLeDiff, and_self, List.length_cons, List.length_nil, Tgs.len, Nat.reduceAdd, Nat.reduceEqDiff, eq_self, decide_true, decide_false, List.getElem?_cons_zero, List.getElem?_cons_succ, Bool.and_false, Bool.false_and, Bool.or_true, Bool.or_false, Bool.true_or, Bool.false_or, and_assoc, fE, tupN]
          refine wp_keep (fun x => !decide (x ∈ l) && (decide (x ∈ A) || decide (x ∈ p))) (fun y => fE k f d a b c s u (.val (tupN l)) (.val (tupN p)) (.val (.lst (nums (p.filter fun x => !decide (x ∈ l))))) (.val (tupN A)) y v.2 S) .emp (fun _ => rfl) (fun x hx y => ?_) fun y => ?_
          · simp only [↓wp_int, ↓wp_str, ↓wp_bl, ↓wp_non, ↓wp_gint, ↓wp_gcls, ↓wp_var, ↓wp_tup, ↓wp_lst, ↓wp_bin, ↓wp_neg, ↓wp_cmp, ↓wp_isc, ↓wp_chain, ↓wp_and, ↓wp_or, ↓wp_and1, ↓wp_and2, ↓wp_or1, ↓wp_or2, ↓wp_not, ↓wp_ifx, ↓wp_idx, ↓wp_slc, ↓wp_rev, ↓wp_fld, ↓wp_call, ↓wp_callk, ↓wp_new, ↓wp_bi, ↓wp_lrg, ↓wp_isi, ↓wp_mt, ↓wp_comp, ↓wp_gal, ↓wp_evP0, ↓wp_evP1, ↓wp_nil, ↓wp_cons, ↓wp_nilB, ↓wp_consB, ↓wp_ts0, ↓wp_ts1, ↓wo_lst, ↓wo_comp, ↓wo_lrg, ↓wo_list, ↓wo_sorted, ↓wo_rev, ↓wo_add, ↓wo_mul, ↓wi_seq, ↓wi_rng, ↓wi_enum, ↓wt_nm, ↓wt_tup, ↓wt_nil, ↓wt_cons, ↓wt_sub, ↓wt_fld, ↓ws_nil, ↓ws_asg, ↓ws_aown, ↓ws_par, ↓ws_expr, ↓ws_ret, ↓ws_retn, ↓ws_pas, ↓ws_doc, ↓ws_brk, ↓ws_cnt, ↓ws_iteN, ↓ws_ite, ↓ws_for, ↓ws_whl, srK_rt, srK_nx, srK_ct, mtX_popS, eq_nils, ne_nils, pk_nil', pk_cons', Option.toList_some, Option.toList_none, bin_powI, at_ibI, slcT_to, slcL_to, List.take_succ_cons, List.take_zero, Int.reduceNeg, Int.zero_add, setX_m1, wp_setFld, setFS_new, fld_ins, wp_compF, wp_forF, wipe_nil, wipe_cons, restore_nil, restore_cons, wip_nil, wip_cons, wipS_emp, wipS_val, tok_none, rng1, rng2, rng3, rngL1, rngL2, tok_lst, tok_tup, forK_nx, forK_ct, forK_bk, forK_rt, Bool.and_self, Bool.and_true, Bool.true_and, Int.reduceToNat, Int.toNat_natCast, Int.reduceSub, Nat.reduceSub, nums_len, wp_ok, wp_bad, wp_bind, wp_ret, wp_some, wp_none, wp_ifS, wp_ifSm, wp_ifSb, Bool.false_eq_true, wp_if, br_true, br_false, br_dec, br_not, cbr_true, cbr_false, cbr_dec, cbr_not, wp_ofRC, wp_blk, cp_ok, endK_rt, endK_nx, orc_n, orc_s, look_zero, look_succ, has_zero, has_succ, set_zero, set_succ, getS_val, getS_ownT, getS_ownF, getS_owniT, getS_owniF, view_slt, view_ref, viewS_own, viewS_owni, viewO_lst, viewO_ins, view_int, view_bl, view_str, view_non, view_tup, view_lst, view_ins, go_nx, go_rt, go_bk, go_ct, bin_addI, bin_subI, bin_mulI, bin_fdivI, bin_modI, bin_addT, bin_addL, cmp_eqI, cmp_neI, cmp_ltI, cmp_leI, cmp_gtI, cmp_geI, idx_lst, idx_tup, at_0, at_1, at_2, at_3, at_4, at_5, at_m1, len_lst, len_tup, bi_int, bi_abs, bi_intb, bi_max2, bi_min2, bi_min3, bi_tupL, bi_tupT, bi_lstL, bi_lstT, seq_lst, seq_tup, lst_lst, bl_bl, int_int, isN_int, isN_bl, isN_non, isN_tup, isN_lst, isN_str, isN_ins, isB_int, isB_tup, isB_non, isB_str, isB_tt, isB_tf, isB_ft, isB_ff, lix_n, lix_t, lix_f, Int.cast_ofNat_Int, in_lst, in_tup, nin_lst, nin_tup, srt_lst, srt_tup, eq_tups, isT_int, isT_tup, isT_lst, isT_str, isT_bl, isT_non, isT_ins, isT_nil, putS_own, putR_lst, wp_putS, wp_putR, wp_setSub, setX_0, setX_1, setX_2, setX_3, wp_mtD, mtX_pop, mtX_app, Option.map_some, Option.map_none, Option.bind_some, Option.bind_none, List.map_cons, List.map_nil, List.append_nil, List.nil_append, List.cons_append, List.replicate_succ, List.replicate_zero, true_and, and_true, if_true, if_false, ne_eq, not_true_eq_false, not_false_eq_true, Bool.not_true, Bool.not_false, forall_const, forall_false, implies_true, false_implies, true_implies, reduceCtorEq, List.set_set, mulOk_l, mulOk_r, Int.reduceEq, Int.reduceLT, Int.reduceLE, na_lit, na_neg, Nat.reduceLT, Nat.reduceLeDiff, and_self, List.length_cons, List.length_nil, Tgs.len, Nat.reduceAdd, Nat.reduceEqDiff, eq_self, decide_true, decide_false, List.getElem?_cons_zero, List.getElem?_cons_succ, Bool.and_false, Bool.false_and, Bool.or_true, Bool.or_false, Bool.true_or, Bool.false_or, and_assoc, fE, tupN]
            exact ⟨fun h => ⟨fun h2 => ⟨keep_yes (by simp [h, h2]), _, rfl⟩, fun h2 => ⟨fun h3 => ⟨keep_yes (by simp [h, h3]), _, rfl⟩, fun h3 => ⟨keep_no (by simp [h2, h3]), _, rfl⟩⟩⟩, fun h => ⟨keep_no (by simp [h]), _, rfl⟩⟩
          · simp only [↓wp_int, ↓wp_str, ↓wp_bl, ↓wp_non, ↓wp_gint, ↓wp_gcls, ↓wp_var, ↓wp_tup, ↓wp_lst, ↓wp_bin, ↓wp_neg, ↓wp_cmp, ↓wp_isc, ↓wp_chain, ↓wp_and, ↓wp_or, ↓wp_and1, ↓wp_and2, ↓wp_or1, ↓wp_or2, ↓wp_not, ↓wp_ifx, ↓wp_idx, ↓wp_slc, ↓wp_rev, ↓wp_fld, ↓wp_call, ↓wp_callk, ↓wp_new, ↓wp_bi, ↓wp_lrg, ↓wp_isi, ↓wp_mt, ↓wp_comp, ↓wp_gal, ↓wp_evP0, ↓wp_evP1, ↓wp_nil, ↓wp_cons, ↓wp_nilB, ↓wp_consB, ↓wp_ts0, ↓wp_ts1, ↓wo_lst, ↓wo_comp, ↓wo_lrg, ↓wo_list, ↓wo_sorted, ↓wo_rev, ↓wo_add, ↓wo_mul, ↓wi_seq, ↓wi_rng, ↓wi_enum, ↓wt_nm, ↓wt_tup, ↓wt_nil, ↓wt_cons, ↓wt_sub, ↓wt_fld, ↓ws_nil, ↓ws_asg, ↓ws_aown, ↓ws_par, ↓ws_expr, ↓ws_ret, ↓ws_retn, ↓ws_pas, ↓ws_doc, ↓ws_brk, ↓ws_cnt, ↓ws_iteN, ↓ws_ite, ↓ws_for, ↓ws_whl, srK_rt, srK_nx, srK_ct, mtX_popS, eq_nils, ne_nils, pk_nil', pk_cons', Option.toList_some, Option.toList_none, bin_powI, at_ibI, slcT_to, slcL_to, List.take_succ_cons, List.take_zero, Int.reduceNeg, Int.zero_add, setX_m1, wp_setFld, setFS_new, fld_ins, wp_compF, wp_forF, wipe_nil, wipe_cons, restore_nil, restore_cons, wip_nil, wip_cons, wipS_emp, wipS_val, tok_none, rng1, rng2, rng3, rngL1, rngL2, tok_lst, tok_tup, forK_nx, forK_ct, forK_bk, forK_rt, Bool.and_self, Bool.and_true, Bool.true_and, Int.reduceToNat, Int.toNat_natCast, Int.reduceSub, Nat.reduceSub, nums_len, wp_ok, wp_bad, wp_bind, wp_ret, wp_some, wp_none, wp_ifS, wp_ifSm, wp_ifSb, Bool.false_eq_true, wp_if, br_true, br_false, br_dec, br_not, cbr_true, cbr_false, cbr_dec, cbr_not, wp_ofRC, wp_blk, cp_ok, endK_rt, endK_nx, orc_n, orc_s, look_zero, look_succ, has_zero, has_succ, set_zero, set_succ, getS_val, getS_ownT, getS_ownF, getS_owniT, getS_owniF, view_slt, view_ref, viewS_own, viewS_owni, viewO_lst, viewO_ins, view_int, view_bl, view_str, view_non, view_tup, view_lst, view_ins, go_nx, go_rt, go_bk, go_ct, bin_addI, bin_subI, bin_mulI, bin_fdivI, bin_modI, bin_addT, bin_addL, cmp_eqI, cmp_neI, cmp_ltI, cmp_leI, cmp_gtI, cmp_geI, idx_lst, idx_tup, at_0, at_1, at_2, at_3, at_4, at_5, at_m1, len_lst, len_tup, bi_int, bi_abs, bi_intb, bi_max2, bi_min2, bi_min3, bi_tupL, bi_tupT, bi_lstL, bi_lstT, seq_lst, seq_tup, lst_lst, bl_bl, int_int, isN_int, isN_bl, isN_non, isN_tup, isN_lst, isN_str, isN_ins, isB_int, isB_tup, isB_non, isB_str, isB_tt, isB_tf, isB_ft, isB_ff, lix_n, lix_t, lix_f, Int.cast_ofNat_Int, in_lst, in_tup, nin_lst, nin_tup, srt_lst, srt_tup, eq_tups, isT_int, isT_tup, isT_lst, isT_str, isT_bl, isT_non, isT_ins, isT_nil, putS_own, putR_lst, wp_putS, wp_putR, wp_setSub, setX_0, setX_1, setX_2, setX_3, wp_mtD, mtX_pop, mtX_app, Option.map_some, Option.map_none, Option.bind_some, Option.bind_none, List.map_cons, List.map_nil, List.append_nil, List.nil_append, List.cons_append, List.replicate_succ, List.replicate_zero, true_and, and_true, if_true, if_false, ne_eq, not_true_eq_false, not_false_eq_true, Bool.not_true, Bool.not_false, forall_const, forall_false, implies_true, false_implies, true_implies, reduceCtorEq, List.set_set, mulOk_l, mulOk_r, Int.reduceEq, Int.reduceLT, Int.reduceLE, na_lit, na_neg, Nat.reduceLT, Nat.reduceLeDiff, and_self, List.length_cons, List.length_nil, Tgs.len, Nat.reduceAdd, Nat.reduceEqDiff, eq_self, decide_true, decide_false, List.getElem?_cons_zero, List.getElem?_cons_succ, Bool.and_false, Bool.false_and, Bool.or_true, Bool.or_false, Bool.true_or, Bool.false_or, and_assoc, fE]
            exact ⟨fun h => ⟨⟨(_, _), rfl⟩, h⟩, fun h => ⟨⟨(_, _), rfl⟩, h⟩⟩
        · simp only [↓wp_int, ↓wp_str, ↓wp_bl, ↓wp_non, ↓wp_gint, ↓wp_gcls, ↓wp_var, ↓wp_tup, ↓wp_lst, ↓wp_bin, ↓wp_neg, ↓wp_cmp, ↓wp_isc, ↓wp_chain, ↓wp_and, ↓wp_or, ↓wp_and1, ↓wp_and2, ↓wp_or1, ↓wp_or2, ↓wp_not, ↓wp_ifx, ↓wp_idx, ↓wp_slc, ↓wp_rev, ↓wp_fld, ↓wp_call, ↓wp_callk, ↓wp_new, ↓wp_bi, ↓wp_lrg, ↓wp_isi, ↓wp_mt, ↓wp_comp, ↓wp_gal, ↓wp_evP0, ↓wp_evP1, ↓wp_nil, ↓wp_cons, ↓wp_nilB, ↓wp_consB, ↓wp_ts0, ↓wp_ts1, ↓wo_lst, ↓wo_comp, ↓wo_lrg, ↓wo_list, ↓wo_sorted, ↓wo_rev, ↓wo_add, ↓wo_mul, ↓wi_seq, ↓wi_rng, ↓wi_enum, ↓wt_nm, ↓wt_tup, ↓wt_nil, ↓wt_cons, ↓wt_sub, ↓wt_fld, ↓ws_nil, ↓ws_asg, ↓ws_aown, ↓ws_par, ↓ws_expr, ↓ws_ret, ↓ws_retn, ↓ws_pas, ↓ws_doc, ↓ws_brk, ↓ws_cnt, ↓ws_iteN, ↓ws_ite, ↓ws_for, ↓ws_whl, srK_rt, srK_nx, srK_ct, mtX_popS, eq_nils, ne_nils, pk_nil', pk_cons', Option.toList_some, Option.toList_none, bin_powI, at_ibI, slcT_to, slcL_to, List.take_succ_cons, List.take_zero, Int.reduceNeg, Int.zero_add, setX_m1, wp_setFld, setFS_new, fld_ins, wp_compF, wp_forF, wipe_nil, wipe_cons, restore_nil, restore_cons, wip_nil, wip_cons, wipS_emp, wipS_val, tok_none, rng1, rng2, rng3, rngL1, rngL2, tok_lst, tok_tup, forK_nx, forK_ct, forK_bk, forK_rt, Bool.and_self, Bool.and_true, Bool.true_and, Int.reduceToNat, Int.toNat_natCast, Int.reduceSub, Nat.reduceSub, nums_len, wp_ok, wp_bad, wp_bind, wp_ret, wp_some, wp_none, wp_ifS, wp_ifSm, wp_ifSb, Bool.false_eq_true, wp_if, br_true, br_false, br_dec, br_not, cbr_true, cbr_false, cbr_dec, cbr_not, wp_ofRC, wp_blk, cp_ok, endK_rt, endK_nx, orc_n, orc_s, look_zero, look_succ, has_zero, has_succ, set_zero, set_succ, getS_val, getS_ownT, getS_ownF, getS_owniT, getS_owniF, view_slt, view_ref, viewS_own, viewS_owni, viewO_lst, viewO_ins, view_int, view_bl, view_str, view_non, view_tup, view_lst, view_ins, go_nx, go_rt, go_bk, go_ct, bin_addI, bin_subI, bin_mulI, bin_fdivI, bin_modI, bin_addT, bin_addL, cmp_eqI, cmp_neI, cmp_ltI, cmp_leI, cmp_gtI, cmp_geI, idx_lst, idx_tup, at_0, at_1, at_2, at_3, at_4, at_5, at_m1, len_lst, len_tup, bi_int, bi_abs, bi_intb, bi_max2, bi_min2, bi_min3, bi_tupL, bi_tupT, bi_lstL, bi_lstT, seq_lst, seq_tup, lst_lst, bl_bl, int_int, isN_int, isN_bl, isN_non, isN_tup, isN_lst, isN_str, isN_ins, isB_int, isB_tup, isB_non, isB_str, isB_tt, isB_tf, isB_ft, isB_ff, lix_n, lix_t, lix_f, Int.cast_ofNat_Int, in_lst, in_tup, nin_lst, nin_tup, srt_lst, srt_tup, eq_tups, isT_int, isT_tup, isT_lst, isT_str, isT_bl, isT_non, isT_ins, isT_nil, putS_own, putR_lst, wp_putS, wp_putR, wp_setSub, setX_0, setX_1, setX_2, setX_3, wp_mtD, mtX_pop, mtX_app, Option.map_some, Option.map_none, Option.bind_some, Option.bind_none, List.map_cons, List.map_nil, List.append_nil, List.nil_append, List.cons_append, List.replicate_succ, List.replicate_zero, true_and, and_true, if_true, if_false, ne_eq, not_true_eq_false, not_false_eq_true, Bool.not_true, Bool.not_false, forall_const, forall_false, implies_true, false_implies, true_implies, reduceCtorEq, List.set_set, mulOk_l, mulOk_r, Int.reduceEq, Int.reduceLT, Int.reduceLE, na_lit, na_neg, Nat.reduceLT, Nat.reduceLeDiff, and_self, List.length_cons, List.length_nil, Tgs.len, Nat.reduceAdd, Nat.reduceEqDiff, eq_self, decide_true, decide_false, List.getElem?_cons_zero, List.getElem?_cons_succ, Bool.and_false, Bool.false_and, Bool.or_true, Bool.or_false, Bool.true_or, Bool.false_or, and_assoc, fE]
          exact ⟨⟨(_, _, _, _), rfl⟩, h1, h⟩
        · simp only [↓wp_int, ↓wp_str, ↓wp_bl, ↓wp_non, ↓wp_gint, ↓wp_gcls, ↓wp_var, ↓wp_tup, ↓wp_lst, ↓wp_bin, ↓wp_neg, ↓wp_cmp, ↓wp_isc, ↓wp_chain, ↓wp_and, ↓wp_or, ↓wp_and1, ↓wp_and2, ↓wp_or1, ↓wp_or2, ↓wp_not, ↓wp_ifx, ↓wp_idx, ↓wp_slc, ↓wp_rev, ↓wp_fld, ↓wp_call, ↓wp_callk, ↓wp_new, ↓wp_bi, ↓wp_lrg, ↓wp_isi, ↓wp_mt, ↓wp_comp, ↓wp_gal, ↓wp_evP0, ↓wp_evP1, ↓wp_nil, ↓wp_cons, ↓wp_nilB, ↓wp_consB, ↓wp_ts0, ↓wp_ts1, ↓wo_lst, ↓wo_comp, ↓wo_lrg, ↓wo_list, ↓wo_sorted, ↓wo_rev, ↓wo_add, ↓wo_mul, ↓wi_seq, ↓wi_rng, ↓wi_enum, ↓wt_nm, ↓wt_tup, ↓wt_nil, ↓wt_cons, ↓wt_sub, ↓wt_fld, ↓ws_nil, ↓ws_asg, ↓ws_aown, ↓ws_par, ↓ws_expr, ↓ws_ret, ↓ws_retn, ↓ws_pas, ↓ws_doc, ↓ws_brk, ↓ws_cnt, ↓ws_iteN, ↓ws_ite, ↓ws_for, ↓ws_whl, srK_rt, srK_nx, srK_ct, mtX_popS, eq_nils, ne_nils, pk_nil', pk_cons', Option.toList_some, Option.toList_none, bin_powI, at_ibI, slcT_to, slcL_to, List.take_succ_cons, List.take_zero, Int.reduceNeg, Int.zero_add, setX_m1, wp_setFld, setFS_new, fld_ins, wp_compF, wp_forF, wipe_nil, wipe_cons, restore_nil, restore_cons, wip_nil, wip_cons, wipS_emp, wipS_val, tok_none, rng1, rng2, rng3, rngL1, rngL2, tok_lst, tok_tup, forK_nx, forK_ct, forK_bk, forK_rt, Bool.and_self, Bool.and_true, Bool.true_and, Int.reduceToNat, Int.toNat_natCast, Int.reduceSub, Nat.reduceSub, nums_len, wp_ok, wp_bad, wp_bind, wp_ret, wp_some, wp_none, wp_ifS, wp_ifSm, wp_ifSb, Bool.false_eq_true, wp_if, br_true, br_false, br_dec, br_not, cbr_true, cbr_false, cbr_dec, cbr_not, wp_ofRC, wp_blk, cp_ok, endK_rt, endK_nx, orc_n, orc_s, look_zero, look_succ, has_zero, has_succ, set_zero, set_succ, getS_val, getS_ownT, getS_ownF, getS_owniT, getS_owniF, view_slt, view_ref, viewS_own, viewS_owni, viewO_lst, viewO_ins, view_int, view_bl, view_str, view_non, view_tup, view_lst, view_ins, go_nx, go_rt, go_bk, go_ct, bin_addI, bin_subI, bin_mulI, bin_fdivI, bin_modI, bin_addT, bin_addL, cmp_eqI, cmp_neI, cmp_ltI, cmp_leI, cmp_gtI, cmp_geI, idx_lst, idx_tup, at_0, at_1, at_2, at_3, at_4, at_5, at_m1, len_lst, len_tup, bi_int, bi_abs, bi_intb, bi_max2, bi_min2, bi_min3, bi_tupL, bi_tupT, bi_lstL, bi_lstT, seq_lst, seq_tup, lst_lst, bl_bl, int_int, isN_int, isN_bl, isN_non, isN_tup, isN_lst, isN_str, isN_ins, isB_int, isB_tup, isB_non, isB_str, isB_tt, isB_tf, isB_ft, isB_ff, lix_n, lix_t, lix_f, Int.cast_ofNat_Int, in_lst, in_tup, nin_lst, nin_tup, srt_lst, srt_tup, eq_tups, isT_int, isT_tup, isT_lst, isT_str, isT_bl, isT_non, isT_ins, isT_nil, putS_own, putR_lst, wp_putS, wp_putR, wp_setSub, setX_0, setX_1, setX_2, setX_3, wp_mtD, mtX_pop, mtX_app, Option.map_some, Option.map_none, Option.bind_some, Option.bind_none, List.map_cons, List.map_nil, List.append_nil, List.nil_append, List.cons_append, List.replicate_succ, List.replicate_zero, true_and, and_true, if_true, if_false, ne_eq, not_true_eq_false, not_false_eq_true, Bool.not_true, Bool.not_false, forall_const, forall_false, implies_true, false_implies, true_implies, reduceCtorEq, List.set_set, mulOk_l, mulOk_r, Int.reduceEq, Int.reduceLT, Int.reduceLE, na_lit, na_neg, Nat.reduceLT, Nat.reduceLeDiff, and_self, List.length_cons, List.length_nil, Tgs.len, Nat.reduceAdd, Nat.reduceEqDiff, eq_self, decide_true, decide_false, List.getElem?_cons_zero, List.getElem?_cons_succ, Bool.and_false, Bool.false_and, Bool.or_true, Bool.or_false, Bool.true_or, Bool.false_or, and_assoc, fE]
          exact ⟨⟨(_, _, _, _), rfl⟩, fun hh => h hh.2⟩
    · simp only [↓wp_int, ↓wp_str, ↓wp_bl, ↓wp_non, ↓wp_gint, ↓wp_gcls, ↓wp_var, ↓wp_tup, ↓wp_lst, ↓wp_bin, ↓wp_neg, ↓wp_cmp, ↓wp_isc, ↓wp_chain, ↓wp_and, ↓wp_or, ↓wp_and1, ↓wp_and2, ↓wp_or1, ↓wp_or2, ↓wp_not, ↓wp_ifx, ↓wp_idx, ↓wp_slc, ↓wp_rev, ↓wp_fld, ↓wp_call, ↓wp_callk, ↓wp_new, ↓wp_bi, ↓wp_lrg, ↓wp_isi, ↓wp_mt, ↓wp_comp, ↓wp_gal, ↓wp_evP0, ↓wp_evP1, ↓wp_nil, ↓wp_cons, ↓wp_nilB, ↓wp_consB, ↓wp_ts0, ↓wp_ts1, ↓wo_lst, ↓wo_comp, ↓wo_lrg, ↓wo_list, ↓wo_sorted, ↓wo_rev, ↓wo_add, ↓wo_mul, ↓wi_seq, ↓wi_rng, ↓wi_enum, ↓wt_nm, ↓wt_tup, ↓wt_nil, ↓wt_cons, ↓wt_sub, ↓wt_fld, ↓ws_nil, ↓ws_asg, ↓ws_aown, ↓ws_par, ↓ws_expr, ↓ws_ret, ↓ws_retn, ↓ws_pas, ↓ws_doc, ↓ws_brk, ↓ws_cnt, ↓ws_iteN, ↓ws_ite, ↓ws_for, ↓ws_whl, srK_rt, srK_nx, srK_ct, mtX_popS, eq_nils, ne_nils, pk_nil', pk_cons', Option.toList_some, Option.toList_none, bin_powI, at_ibI, slcT_to, slcL_to, List.take_succ_cons, List.take_zero, Int.reduceNeg, Int.zero_add, setX_m1, wp_setFld, setFS_new, fld_ins, wp_compF, wp_forF, wipe_nil, wipe_cons, restore_nil, restore_cons, wip_nil, wip_cons, wipS_emp, wipS_val, tok_none, rng1, rng2, rng3, rngL1, rngL2, tok_lst, tok_tup, forK_nx, forK_ct, forK_bk, forK_rt, Bool.and_self, Bool.and_true, Bool.true_and, Int.reduceToNat, Int.toNat_natCast, Int.reduceSub, Nat.reduceSub, nums_len, wp_ok, wp_bad, wp_bind, wp_ret, wp_some, wp_none, wp_ifS, wp_ifSm, wp_ifSb, Bool.false_eq_true, wp_if, br_true, br_false, br_dec, br_not, cbr_true, cbr_false, cbr_dec, cbr_not, wp_ofRC, wp_blk, cp_ok, endK_rt, endK_nx, orc_n, orc_s, look_zero, look_succ, has_zero, has_succ, set_zero, set_succ, getS_val, getS_ownT, getS_ownF, getS_owniT, getS_owniF, view_slt, view_ref, viewS_own, viewS_owni, viewO_lst, viewO_ins, view_int, view_bl, view_str, view_non, view_tup, view_lst, view_ins, go_nx, go_rt, go_bk, go_ct, bin_addI, bin_subI, bin_mulI, bin_fdivI, bin_modI, bin_addT, bin_addL, cmp_eqI, cmp_neI, cmp_ltI, cmp_leI, cmp_gtI, cmp_geI, idx_lst, idx_tup, at_0, at_1, at_2, at_3, at_4, at_5, at_m1, len_lst, len_tup, bi_int, bi_abs, bi_intb, bi_max2, bi_min2, bi_min3, bi_tupL, bi_tupT, bi_lstL, bi_lstT, seq_lst, seq_tup, lst_lst, bl_bl, int_int, isN_int, isN_bl, isN_non, isN_tup, isN_lst, isN_str, isN_ins, isB_int, isB_tup, isB_non, isB_str, isB_tt, isB_tf, isB_ft, isB_ff, lix_n, lix_t, lix_f, Int.cast_ofNat_Int, in_lst, in_tup, nin_lst, nin_tup, srt_lst, srt_tup, eq_tups, isT_int, isT_tup, isT_lst, isT_str, isT_bl, isT_non, isT_ins, isT_nil, putS_own, putR_lst, wp_putS, wp_putR, wp_setSub, setX_0, setX_1, setX_2, setX_3, wp_mtD, mtX_pop, mtX_app, Option.map_some, Option.map_none, Option.bind_some, Option.bind_none, List.map_cons, List.map_nil, List.append_nil, List.nil_append, List.cons_append, List.replicate_succ, List.replicate_zero, true_and, and_true, if_true, if_false, ne_eq, not_true_eq_false, not_false_eq_true, Bool.not_true, Bool.not_false, forall_const, forall_false, implies_true, false_implies, true_implies, reduceCtorEq, List.set_set, mulOk_l, mulOk_r, Int.reduceEq, Int.reduceLT, Int.reduceLE, na_lit, na_neg, Nat.reduceLT, Nat.reduceLeDiff, and_self, List.length_cons, List.length_nil, Tgs.len, Nat.reduceAdd, Nat.reduceEqDiff, eq_self, decide_true, decide_false, List.getElem?_cons_zero, List.getElem?_cons_succ, Bool.and_false, Bool.false_and, Bool.or_true, Bool.or_false, Bool.true_or, Bool.false_or, and_assoc, fE]
      exact ⟨⟨(_, _, _, _, _), rfl⟩, h⟩
    · simp only [↓wp_int, ↓wp_str, ↓wp_bl, ↓wp_non, ↓wp_gint, ↓wp_gcls, ↓wp_var, ↓wp_tup, ↓wp_lst, ↓wp_bin, ↓wp_neg, ↓wp_cmp, ↓wp_isc, ↓wp_chain, ↓wp_and, ↓wp_or, ↓wp_and1, ↓wp_and2, ↓wp_or1, ↓wp_or2, ↓wp_not, ↓wp_ifx, ↓wp_idx, ↓wp_slc, ↓wp_rev, ↓wp_fld, ↓wp_call, ↓wp_callk, ↓wp_new, ↓wp_bi, ↓wp_lrg, ↓wp_isi, ↓wp_mt, ↓wp_comp, ↓wp_gal, ↓wp_evP0, ↓wp_evP1, ↓wp_nil, ↓wp_cons, ↓wp_nilB, ↓wp_consB, ↓wp_ts0, ↓wp_ts1, ↓wo_lst, ↓wo_comp, ↓wo_lrg, ↓wo_list, ↓wo_sorted, ↓wo_rev, ↓wo_add, ↓wo_mul, ↓wi_seq, ↓wi_rng, ↓wi_enum, ↓wt_nm, ↓wt_tup, ↓wt_nil, ↓wt_cons, ↓wt_sub, ↓wt_fld, ↓ws_nil, ↓ws_asg, ↓ws_aown, ↓ws_par, ↓ws_expr, ↓ws_ret, ↓ws_retn, ↓ws_pas, ↓ws_doc, ↓ws_brk, ↓ws_cnt, ↓ws_iteN, ↓ws_ite, ↓ws_for, ↓ws_whl, srK_rt, srK_nx, srK_ct, mtX_popS, eq_nils, ne_nils, pk_nil', pk_cons', Option.toList_some, Option.toList_none, bin_powI, at_ibI, slcT_to, slcL_to, List.take_succ_cons, List.take_zero, Int.reduceNeg, Int.zero_add, setX_m1, wp_setFld, setFS_new, fld_ins, wp_compF, wp_forF, wipe_nil, wipe_cons, restore_nil, restore_cons, wip_nil, wip_cons, wipS_emp, wipS_val, tok_none, rng1, rng2, rng3, rngL1, rngL2, tok_lst, tok_tup, forK_nx, forK_ct, forK_bk, forK_rt, Bool.and_self, Bool.and_true, Bool.true_and, Int.reduceToNat, Int.toNat_natCast, Int.reduceSub, Nat.reduceSub, nums_len, wp_ok, wp_bad, wp_bind, wp_ret, wp_some, wp_none, wp_ifS, wp_ifSm, wp_ifSb, Bool.false_eq_true, wp_if, br_true, br_false, br_dec, br_not, cbr_true, cbr_false, cbr_dec, cbr_not, wp_ofRC, wp_blk, cp_ok, endK_rt, endK_nx, orc_n, orc_s, look_zero, look_succ, has_zero, has_succ, set_zero, set_succ, getS_val, getS_ownT, getS_ownF, getS_owniT, getS_owniF, view_slt, view_ref, viewS_own, viewS_owni, viewO_lst, viewO_ins, view_int, view_bl, view_str, view_non, view_tup, view_lst, view_ins, go_nx, go_rt, go_bk, go_ct, bin_addI, bin_subI, bin_mulI, bin_fdivI, bin_modI, bin_addT, bin_addL, cmp_eqI, cmp_neI, cmp_ltI, cmp_leI, cmp_gtI, cmp_geI, idx_lst, idx_tup, at_0, at_1, at_2, at_3, at_4, at_5, at_m1, len_lst, len_tup, bi_int, bi_abs, bi_intb, bi_max2, bi_min2, bi_min3, bi_tupL, bi_tupT, bi_lstL, bi_lstT, seq_lst, seq_tup, lst_lst, bl_bl, int_int, isN_int, isN_bl, isN_non, isN_tup, isN_lst, isN_str, isN_ins, isB_int, isB_tup, isB_non, isB_str, isB_tt, isB_tf, isB_ft, isB_ff, lix_n, lix_t, lix_f, Int.cast_ofNat_Int, in_lst, in_tup, nin_lst, nin_tup, srt_lst, srt_tup, eq_tups, isT_int, isT_tup, isT_lst, isT_str, isT_bl, isT_non, isT_ins, isT_nil, putS_own, putR_lst, wp_putS, wp_putR, wp_setSub, setX_0, setX_1, setX_2, setX_3, wp_mtD, mtX_pop, mtX_app, Option.map_some, Option.map_none, Option.bind_some, Option.bind_none, List.map_cons, List.map_nil, List.append_nil, List.nil_append, List.cons_append, List.replicate_succ, List.replicate_zero, true_and, and_true, if_true, if_false, ne_eq, not_true_eq_false, not_false_eq_true, Bool.not_true, Bool.not_false, forall_const, forall_false, implies_true, false_implies, true_implies, reduceCtorEq, List.set_set, mulOk_l, mulOk_r, Int.reduceEq, Int.reduceLT, Int.reduceLE, na_lit, na_neg, Nat.reduceLT, Nat.reduceLeDiff, and_self, List.length_cons, List.length_nil, Tgs.len, Nat.reduceAdd, Nat.reduceEqDiff, eq_self, decide_true, decide_false, List.getElem?_cons_zero, List.getElem?_cons_succ, Bool.and_false, Bool.false_and, Bool.or_true, Bool.or_false, Bool.true_or, Bool.false_or, and_assoc, fE]
      exact ⟨⟨(_, _, _, _, _), rfl⟩, h⟩
  · simp only [↓wp_int, ↓wp_str, ↓wp_bl, ↓wp_non, ↓wp_gint, ↓wp_gcls, ↓wp_var, ↓wp_tup, ↓wp_lst, ↓wp_bin, ↓wp_neg, ↓wp_cmp, ↓wp_isc, ↓wp_chain, ↓wp_and, ↓wp_or, ↓wp_and1, ↓wp_and2, ↓wp_or1, ↓wp_or2, ↓wp_not, ↓wp_ifx, ↓wp_idx, ↓wp_slc, ↓wp_rev, ↓wp_fld, ↓wp_call, ↓wp_callk, ↓wp_new, ↓wp_bi, ↓wp_lrg, ↓wp_isi, ↓wp_mt, ↓wp_comp, ↓wp_gal, ↓wp_evP0, ↓wp_evP1, ↓wp_nil, ↓wp_cons, ↓wp_nilB, ↓wp_consB, ↓wp_ts0, ↓wp_ts1, ↓wo_lst, ↓wo_comp, ↓wo_lrg, ↓wo_list, ↓wo_sorted, ↓wo_rev, ↓wo_add, ↓wo_mul, ↓wi_seq, ↓wi_rng, ↓wi_enum, ↓wt_nm, ↓wt_tup, ↓wt_nil, ↓wt_cons, ↓wt_sub, ↓wt_fld, ↓ws_nil, ↓ws_asg, ↓ws_aown, ↓ws_par, ↓ws_expr, ↓ws_ret, ↓ws_retn, ↓ws_pas, ↓ws_doc, ↓ws_brk, ↓ws_cnt, ↓ws_iteN, ↓ws_ite, ↓ws_for, ↓ws_whl, srK_rt, srK_nx, srK_ct, mtX_popS, eq_nils, ne_nils, pk_nil', pk_cons', Option.toList_some, Option.toList_none, bin_powI, at_ibI, slcT_to, slcL_to, List.take_succ_cons, List.take_zero, Int.reduceNeg, Int.zero_add, setX_m1, wp_setFld, setFS_new, fld_ins, wp_compF, wp_forF, wipe_nil, wipe_cons, restore_nil, restore_cons, wip_nil, wip_cons, wipS_emp, wipS_val, tok_none, rng1, rng2, rng3, rngL1, rngL2, tok_lst, tok_tup, forK_nx, forK_ct, forK_bk, forK_rt, Bool.and_self, Bool.and_true, Bool.true_and, Int.reduceToNat, Int.toNat_natCast, Int.reduceSub, Nat.reduceSub, nums_len, wp_ok, wp_bad, wp_bind, wp_ret, wp_some, wp_none, wp_ifS, wp_ifSm, wp_ifSb, Bool.false_eq_true, wp_if, br_true, br_false, br_dec, br_not, cbr_true, cbr_false, cbr_dec, cbr_not, wp_ofRC, wp_blk, cp_ok, endK_rt, endK_nx, orc_n, orc_s, look_zero, look_succ, has_zero, has_succ, set_zero, set_succ, getS_val, getS_ownT, getS_ownF, getS_owniT, getS_owniF, view_slt, view_ref, viewS_own, viewS_owni, viewO_lst, viewO_ins, view_int, view_bl, view_str, view_non, view_tup, view_lst, view_ins, go_nx, go_rt, go_bk, go_ct, bin_addI, bin_subI, bin_mulI, bin_fdivI, bin_modI, bin_addT, bin_addL, cmp_eqI, cmp_neI, cmp_ltI, cmp_leI, cmp_gtI, cmp_geI, idx_lst, idx_tup, at_0, at_1, at_2, at_3, at_4, at_5, at_m1, len_lst, len_tup, bi_int, bi_abs, bi_intb, bi_max2, bi_min2, bi_min3, bi_tupL, bi_tupT, bi_lstL, bi_lstT, seq_lst, seq_tup, lst_lst, bl_bl, int_int, isN_int, isN_bl, isN_non, isN_tup, isN_lst, isN_str, isN_ins, isB_int, isB_tup, isB_non, isB_str, isB_tt, isB_tf, isB_ft, isB_ff, lix_n, lix_t, lix_f, Int.cast_ofNat_Int, in_lst, in_tup, nin_lst, nin_tup, srt_lst, srt_tup, eq_tups, isT_int, isT_tup, isT_lst, isT_str, isT_bl, isT_non, isT_ins, isT_nil, putS_own, putR_lst, wp_putS, wp_putR, wp_setSub, setX_0, setX_1, setX_2, setX_3, wp_mtD, mtX_pop, mtX_app, Option.map_some, Option.map_none, Option.bind_some, Option.bind_none, List.map_cons, List.map_nil, List.append_nil, List.nil_append, List.cons_append, List.replicate_succ, List.replicate_zero, true_and, and_true, if_true, if_false, ne_eq, not_true_eq_false, not_false_eq_true, Bool.not_true, Bool.not_false, forall_const, forall_false, implies_true, false_implies, true_implies, reduceCtorEq, List.set_set, mulOk_l, mulOk_r, Int.reduceEq, Int.reduceLT, Int.reduceLE, na_lit, na_neg, Nat.reduceLT, Nat.reduceLeDiff, and_self, List.length_cons, List.length_nil, Tgs.len, Nat.reduceAdd, Nat.reduceEqDiff, eq_self, decide_true, decide_false, List.getElem?_cons_zero, List.getElem?_cons_succ, Bool.and_false, Bool.false_and, Bool.or_true, Bool.or_false, Bool.true_or, Bool.false_or, and_assoc, fE]
    exact ⟨true, rfl, by simp only [true_iff]; exact h⟩
  · simp only [↓wp_int, ↓wp_str, ↓wp_bl, ↓wp_non, ↓wp_gint, ↓wp_gcls, ↓wp_var, ↓wp_tup, ↓wp_lst, ↓wp_bin, ↓wp_neg, ↓wp_cmp, ↓wp_isc, ↓wp_chain, ↓wp_and, ↓wp_or, ↓wp_and1, ↓wp_and2, ↓wp_or1, ↓wp_or2, ↓wp_not, ↓wp_ifx, ↓wp_idx, ↓wp_slc, ↓wp_rev, ↓wp_fld, ↓wp_call, ↓wp_callk, ↓wp_new, ↓wp_bi, ↓wp_lrg, ↓wp_isi, ↓wp_mt, ↓wp_comp, ↓wp_gal, ↓wp_evP0, ↓wp_evP1, ↓wp_nil, ↓wp_cons, ↓wp_nilB, ↓wp_consB, ↓wp_ts0, ↓wp_ts1, ↓wo_lst, ↓wo_comp, ↓wo_lrg, ↓wo_list, ↓wo_sorted, ↓wo_rev, ↓wo_add, ↓wo_mul, ↓wi_seq, ↓wi_rng, ↓wi_enum, ↓wt_nm, ↓wt_tup, ↓wt_nil, ↓wt_cons, ↓wt_sub, ↓wt_fld, ↓ws_nil, ↓ws_asg, ↓ws_aown, ↓ws_par, ↓ws_expr, ↓ws_ret, ↓ws_retn, ↓ws_pas, ↓ws_doc, ↓ws_brk, ↓ws_cnt, ↓ws_iteN, ↓ws_ite, ↓ws_for, ↓ws_whl, srK_rt, srK_nx, srK_ct, mtX_popS, eq_nils, ne_nils, pk_nil', pk_cons', Option.toList_some, Option.toList_none, bin_powI, at_ibI, slcT_to, slcL_to, List.take_succ_cons, List.take_zero, Int.reduceNeg, Int.zero_add, setX_m1, wp_setFld, setFS_new, fld_ins, wp_compF, wp_forF, wipe_nil, wipe_cons, restore_nil, restore_cons, wip_nil, wip_cons, wipS_emp, wipS_val, tok_none, rng1, rng2, rng3, rngL1, rngL2, tok_lst, tok_tup, forK_nx, forK_ct, forK_bk, forK_rt, Bool.and_self, Bool.and_true, Bool.true_and, Int.reduceToNat, Int.toNat_natCast, Int.reduceSub, Nat.reduceSub, nums_len, wp_ok, wp_bad, wp_bind, wp_ret, wp_some, wp_none, wp_ifS, wp_ifSm, wp_ifSb, Bool.false_eq_true, wp_if, br_true, br_false, br_dec, br_not, cbr_true, cbr_false, cbr_dec, cbr_not, wp_ofRC, wp_blk, cp_ok, endK_rt, endK_nx, orc_n, orc_s, look_zero, look_succ, has_zero, has_succ, set_zero, set_succ, getS_val, getS_ownT, getS_ownF, getS_owniT, getS_owniF, view_slt, view_ref, viewS_own, viewS_owni, viewO_lst, viewO_ins, view_int, view_bl, view_str, view_non, view_tup, view_lst, view_ins, go_nx, go_rt, go_bk, go_ct, bin_addI, bin_subI, bin_mulI, bin_fdivI, bin_modI, bin_addT, bin_addL, cmp_eqI, cmp_neI, cmp_ltI, cmp_leI, cmp_gtI, cmp_geI, idx_lst, idx_tup, at_0, at_1, at_2, at_3, at_4, at_5, at_m1, len_lst, len_tup, bi_int, bi_abs, bi_intb, bi_max2, bi_min2, bi_min3, bi_tupL, bi_tupT, bi_lstL, bi_lstT, seq_lst, seq_tup, lst_lst, bl_bl, int_int, isN_int, isN_bl, isN_non, isN_tup, isN_lst, isN_str, isN_ins, isB_int, isB_tup, isB_non, isB_str, isB_tt, isB_tf, isB_ft, isB_ff, lix_n, lix_t, lix_f, Int.cast_ofNat_Int, in_lst, in_tup, nin_lst, nin_tup, srt_lst, srt_tup, eq_tups, isT_int, isT_tup, isT_lst, isT_str, isT_bl, isT_non, isT_ins, isT_nil, putS_own, putR_lst, wp_putS, wp_putR, wp_setSub, setX_0, setX_1, setX_2, setX_3, wp_mtD, mtX_pop, mtX_app, Option.map_some, Option.map_none, Option.bind_some, Option.bind_none, List.map_cons, List.map_nil, List.append_nil, List.nil_append, List.cons_append, List.replicate_succ, List.replicate_zero, true_and, and_true, if_true, if_false, ne_eq, not_true_eq_false, not_false_eq_true, Bool.not_true, Bool.not_false, forall_const, forall_false, implies_true, false_implies, true_implies, reduceCtorEq, List.set_set, mulOk_l, mulOk_r, Int.reduceEq, Int.reduceLT, Int.reduceLE, na_lit, na_neg, Nat.reduceLT, Nat.reduceLeDiff, and_self, List.length_cons, List.length_nil, Tgs.len, Nat.reduceAdd, Nat.reduceEqDiff, eq_self, decide_true, decide_false, List.getElem?_cons_zero, List.getElem?_cons_succ, Bool.and_false, Bool.false_and, Bool.or_true, Bool.or_false, Bool.true_or, Bool.false_or, and_assoc, fE]
    exact ⟨false, rfl, by simp only [Bool.false_eq_true, false_iff]; exact h⟩
end K33

namespace K33
open PySem Dn
theorem nr_iff {k w u : Nat} {f : Int} (hk : k ≤ 4) (hw : w ≤ k) (hu : u ≤ k) (hf : 0 ≤ f) : NearP k f w u ↔ 2 * (w : Int) - k - u ≤ f := by
  have h := List.all_eq_true.mp (List.all_eq_true.mp (List.all_eq_true.mp near_c k (List.mem_range.mpr (by omega))) w (List.mem_range.mpr (by omega))) u (List.mem_range.mpr (by omega))
  unfold nearC at h
  rw [Bool.and_eq_true] at h
  constructor
  · rintro ⟨A, hA, B, hB, e⟩
    have := of_decide_eq_true (List.all_eq_true.mp (List.all_eq_true.mp h.1 A hA) B hB)
    omega
  · intro e
    obtain ⟨A, hA, q⟩ := List.any_eq_true.mp h.2
    obtain ⟨B, hB, q⟩ := List.any_eq_true.mp q
    have := of_decide_eq_true q
    exact ⟨A, hA, B, hB, by omega⟩
theorem fr_iff {k f a b u : Nat} {c s : Int} (hk : k ≤ 4) (hf : f ≤ 2) (hf2 : f ≤ k) (ha : a ≤ k) (hb : b ≤ k) (hs : 0 ≤ s) : FarP k f a b c s u ↔ c ≤ k - max 0 (max 0 ((b : Int) - f) - s) ∧ (a : Int) ≤ k - max 0 (max 0 (max (a : Int) b - f) - u) := by
  have h := List.all_eq_true.mp (List.all_eq_true.mp (List.all_eq_true.mp (List.all_eq_true.mp far_c k (List.mem_range.mpr (by omega))) f (List.mem_range.mpr (by omega))) a (List.mem_range.mpr (by omega))) b (List.mem_range.mpr (by omega))
  unfold farC at h
  rw [Bool.and_eq_true] at h
  have em : (min (k : Int) f) = ((min k f : Nat) : Int) := by omega
  unfold FarP
  rw [em]
  constructor
  · rintro ⟨l, hl, p, hp, e1, A, hA, e2⟩
    have q := List.all_eq_true.mp (List.all_eq_true.mp h.1 l hl) p hp
    rw [Bool.and_eq_true] at q
    have q1 := of_decide_eq_true q.1
    have q2 := of_decide_eq_true (List.all_eq_true.mp q.2 A hA)
    have z1 : 0 ≤ less p l := by unfold less; omega
    have z2 : 0 ≤ outs (span 0 k) l A p := by unfold outs; omega
    have e3 : outs (span 0 k) l A p = outs (span 0 k) l A p := rfl
    constructor <;> omega
  · rintro ⟨e1, e2⟩
    obtain ⟨l, hl, q⟩ := List.any_eq_true.mp h.2
    obtain ⟨p, hp, q⟩ := List.any_eq_true.mp q
    rw [Bool.and_eq_true] at q
    have q1 := of_decide_eq_true q.1
    obtain ⟨A, hA, q2⟩ := List.any_eq_true.mp q.2
    have q2 := of_decide_eq_true q2
    exact ⟨l, hl, p, hp, by omega, A, hA, by omega⟩
def ByAllP (k : Nat) (f a b c : Int) (s : Nat) (x : D) : Prop :=
  (∃ u : Nat, u ≤ s ∧ NearP k f a u ∧ (∀ v, v < u → ¬ NearP k f a v) ∧ x = .int u) ∨
  ((∀ u, u ≤ s → ¬ NearP k f a u) ∧ ((∃ u : Nat, s < u ∧ u ≤ k ∧ 0 < s ∧ FarP k f a b c s u ∧ (∀ v, s < v → v < u → ¬ FarP k f a b c s v) ∧ x = .int u) ∨ ((0 < s → ∀ v, s < v → v ≤ k → ¬ FarP k f a b c s v) ∧ x = .non)))
theorem by_all {q k s : Nat} {f d a b c : Int} {S : List Ob} (hk : k ≤ 12) (hs : s ≤ k) (hq : 3 ≤ q) : CP (fun x S' => S' = S ∧ ByAllP k f a b c s x) .mk (callF T q f__law_by_all none [.tup [.int k, .int f, .int d, .int a, .int b, .int c], .int s] S) := by
  refine cp_run T__law_by_all rfl (by omega) ?_
  have b1 := big_of (i := ((s : Int) + 1)) (by omega) (by omega)
  have b2 := big_of (i := ((k : Int) + 1)) (by omega) (by omega)
  have e1 : ((s : Int) + 1).toNat = s + 1 := by omega
  have e2 : ((k : Int) + 1 - (s + 1)).toNat = k - s := by omega
  simp only [↓wp_int, ↓wp_str, ↓wp_bl, ↓wp_non, ↓wp_gint, ↓wp_gcls, ↓wp_var, ↓wp_tup, ↓wp_lst, ↓wp_bin, ↓wp_neg, ↓wp_cmp, ↓wp_isc, ↓wp_chain, ↓wp_and, ↓wp_or, ↓wp_and1, ↓wp_and2, ↓wp_or1, ↓wp_or2, ↓wp_not, ↓wp_ifx, ↓wp_idx, ↓wp_slc, ↓wp_rev, ↓wp_fld, ↓wp_call, ↓wp_callk, ↓wp_new, ↓wp_bi, ↓wp_lrg, ↓wp_isi, ↓wp_mt, ↓wp_comp, ↓wp_gal, ↓wp_evP0, ↓wp_evP1, ↓wp_nil, ↓wp_cons, ↓wp_nilB, ↓wp_consB, ↓wp_ts0, ↓wp_ts1, ↓wo_lst, ↓wo_comp, ↓wo_lrg, ↓wo_list, ↓wo_sorted, ↓wo_rev, ↓wo_add, ↓wo_mul, ↓wi_seq, ↓wi_rng, ↓wi_enum, ↓wt_nm, ↓wt_tup, ↓wt_nil, ↓wt_cons, ↓wt_sub, ↓wt_fld, ↓ws_nil, ↓ws_asg, ↓ws_aown, ↓ws_par, ↓ws_expr, ↓ws_ret, ↓ws_retn, ↓ws_pas, ↓ws_doc, ↓ws_brk, ↓ws_cnt, ↓ws_iteN, ↓ws_ite, ↓ws_for, ↓ws_whl, srK_rt, srK_nx, srK_ct, mtX_popS, eq_nils, ne_nils, pk_nil', pk_cons', Option.toList_some, Option.toList_none, bin_powI, at_ibI, slcT_to, slcL_to, List.take_succ_cons, List.take_zero, Int.reduceNeg, Int.zero_add, setX_m1, wp_setFld, setFS_new, fld_ins, wp_compF, wp_forF, wipe_nil, wipe_cons, restore_nil, restore_cons, wip_nil, wip_cons, wipS_emp, wipS_val, tok_none, rng1, rng2, rng3, rngL1, rngL2, tok_lst, tok_tup, forK_nx, forK_ct, forK_bk, forK_rt, Bool.and_self, Bool.and_true, Bool.true_and, Int.reduceToNat, Int.toNat_natCast, Int.reduceSub, Nat.reduceSub, nums_len, wp_ok, wp_bad, wp_bind, wp_ret, wp_some, wp_none, wp_ifS, wp_ifSm, wp_ifSb, Bool.false_eq_true, wp_if, br_true, br_false, br_dec, br_not, cbr_true, cbr_false, cbr_dec, cbr_not, wp_ofRC, wp_blk, cp_ok, endK_rt, endK_nx, orc_n, orc_s, look_zero, look_succ, has_zero, has_succ, set_zero, set_succ, getS_val, getS_ownT, getS_ownF, getS_owniT, getS_owniF, view_slt, view_ref, viewS_own, viewS_owni, viewO_lst, viewO_ins, view_int, view_bl, view_str, view_non, view_tup, view_lst, view_ins, go_nx, go_rt, go_bk, go_ct, bin_addI, bin_subI, bin_mulI, bin_fdivI, bin_modI, bin_addT, bin_addL, cmp_eqI, cmp_neI, cmp_ltI, cmp_leI, cmp_gtI, cmp_geI, idx_lst, idx_tup, at_0, at_1, at_2, at_3, at_4, at_5, at_m1, len_lst, len_tup, bi_int, bi_abs, bi_intb, bi_max2, bi_min2, bi_min3, bi_tupL, bi_tupT, bi_lstL, bi_lstT, seq_lst, seq_tup, lst_lst, bl_bl, int_int, isN_int, isN_bl, isN_non, isN_tup, isN_lst, isN_str, isN_ins, isB_int, isB_tup, isB_non, isB_str, isB_tt, isB_tf, isB_ft, isB_ff, lix_n, lix_t, lix_f, Int.cast_ofNat_Int, in_lst, in_tup, nin_lst, nin_tup, srt_lst, srt_tup, eq_tups, isT_int, isT_tup, isT_lst, isT_str, isT_bl, isT_non, isT_ins, isT_nil, putS_own, putR_lst, wp_putS, wp_putR, wp_setSub, setX_0, setX_1, setX_2, setX_3, wp_mtD, mtX_pop, mtX_app, Option.map_some, Option.map_none, Option.bind_some, Option.bind_none, List.map_cons, List.map_nil, List.append_nil, List.nil_append, List.cons_append, List.replicate_succ, List.replicate_zero, true_and, and_true, if_true, if_false, ne_eq, not_true_eq_false, not_false_eq_true, Bool.not_true, Bool.not_false, forall_const, forall_false, implies_true, false_implies, true_implies, reduceCtorEq, List.set_set, mulOk_l, mulOk_r, Int.reduceEq, Int.reduceLT, Int.reduceLE, na_lit, na_neg, Nat.reduceLT, Nat.reduceLeDiff, and_self, List.length_cons, List.length_nil, Tgs.len, Nat.reduceAdd, Nat.reduceEqDiff, eq_self, decide_true, decide_false, List.getElem?_cons_zero, List.getElem?_cons_succ, Bool.and_false, Bool.false_and, Bool.or_true, Bool.or_false, Bool.true_or, Bool.false_or, and_assoc, fn__law_by_all, b__law_by_all, b1, e1]
  refine ⟨by omega, ?_⟩
  refine wp_forN (fun i s' => (∀ v, v < i → ¬ NearP k f a v) ∧ ∃ w, s' = ⟨[.val (.tup [.int k, .int f, .int d, .int a, .int b, .int c]), .val (.int s), .val (.int k), w], S⟩) ⟨fun v h => (Nat.not_lt_zero _ h).elim, .emp, rfl⟩ ?_ ?_
  · rintro i x s' hx ⟨hn, w, rfl⟩
    obtain ⟨hi, rfl⟩ := span_get hx
    refine ⟨rfl, ?_⟩
    simp only [↓wp_int, ↓wp_str, ↓wp_bl, ↓wp_non, ↓wp_gint, ↓wp_gcls, ↓wp_var, ↓wp_tup, ↓wp_lst, ↓wp_bin, ↓wp_neg, ↓wp_cmp, ↓wp_isc, ↓wp_chain, ↓wp_and, ↓wp_or, ↓wp_and1, ↓wp_and2, ↓wp_or1, ↓wp_or2, ↓wp_not, ↓wp_ifx, ↓wp_idx, ↓wp_slc, ↓wp_rev, ↓wp_fld, ↓wp_call, ↓wp_callk, ↓wp_new, ↓wp_bi, ↓wp_lrg, ↓wp_isi, ↓wp_mt, ↓wp_comp, ↓wp_gal, ↓wp_evP0, ↓wp_evP1, ↓wp_nil, ↓wp_cons, ↓wp_nilB, ↓wp_consB, ↓wp_ts0, ↓wp_ts1, ↓wo_lst, ↓wo_comp, ↓wo_lrg, ↓wo_list, ↓wo_sorted, ↓wo_rev, ↓wo_add, ↓wo_mul, ↓wi_seq, ↓wi_rng, ↓wi_enum, ↓wt_nm, ↓wt_tup, ↓wt_nil, ↓wt_cons, ↓wt_sub, ↓wt_fld, ↓ws_nil, ↓ws_asg, ↓ws_aown, ↓ws_par, ↓ws_expr, ↓ws_ret, ↓ws_retn, ↓ws_pas, ↓ws_doc, ↓ws_brk, ↓ws_cnt, ↓ws_iteN, ↓ws_ite, ↓ws_for, ↓ws_whl, srK_rt, srK_nx, srK_ct, mtX_popS, eq_nils, ne_nils, pk_nil', pk_cons', Option.toList_some, Option.toList_none, bin_powI, at_ibI, slcT_to, slcL_to, List.take_succ_cons, List.take_zero, Int.reduceNeg, Int.zero_add, setX_m1, wp_setFld, setFS_new, fld_ins, wp_compF, wp_forF, wipe_nil, wipe_cons, restore_nil, restore_cons, wip_nil, wip_cons, wipS_emp, wipS_val, tok_none, rng1, rng2, rng3, rngL1, rngL2, tok_lst, tok_tup, forK_nx, forK_ct, forK_bk, forK_rt, Bool.and_self, Bool.and_true, Bool.true_and, Int.reduceToNat, Int.toNat_natCast, Int.reduceSub, Nat.reduceSub, nums_len, wp_ok, wp_bad, wp_bind, wp_ret, wp_some, wp_none, wp_ifS, wp_ifSm, wp_ifSb, Bool.false_eq_true, wp_if, br_true, br_false, br_dec, br_not, cbr_true, cbr_false, cbr_dec, cbr_not, wp_ofRC, wp_blk, cp_ok, endK_rt, endK_nx, orc_n, orc_s, look_zero, look_succ, has_zero, has_succ, set_zero, set_succ, getS_val, getS_ownT, getS_ownF, getS_owniT, getS_owniF, view_slt, view_ref, viewS_own, viewS_owni, viewO_lst, viewO_ins, view_int, view_bl, view_str, view_non, view_tup, view_lst, view_ins, go_nx, go_rt, go_bk, go_ct, bin_addI, bin_subI, bin_mulI, bin_fdivI, bin_modI, bin_addT, bin_addL, cmp_eqI, cmp_neI, cmp_ltI, cmp_leI, cmp_gtI, cmp_geI, idx_lst, idx_tup, at_0, at_1, at_2, at_3, at_4, at_5, at_m1, len_lst, len_tup, bi_int, bi_abs, bi_intb, bi_max2, bi_min2, bi_min3, bi_tupL, bi_tupT, bi_lstL, bi_lstT, seq_lst, seq_tup, lst_lst, bl_bl, int_int, isN_int, isN_bl, isN_non, isN_tup, isN_lst, isN_str, isN_ins, isB_int, isB_tup, isB_non, isB_str, isB_tt, isB_tf, isB_ft, isB_ff, lix_n, lix_t, lix_f, Int.cast_ofNat_Int, in_lst, in_tup, nin_lst, nin_tup, srt_lst, srt_tup, eq_tups, isT_int, isT_tup, isT_lst, isT_str, isT_bl, isT_non, isT_ins, isT_nil, putS_own, putR_lst, wp_putS, wp_putR, wp_setSub, setX_0, setX_1, setX_2, setX_3, wp_mtD, mtX_pop, mtX_app, Option.map_some, Option.map_none, Option.bind_some, Option.bind_none, List.map_cons, List.map_nil, List.append_nil, List.nil_append, List.cons_append, List.replicate_succ, List.replicate_zero, true_and, and_true, if_true, if_false, ne_eq, not_true_eq_false, not_false_eq_true, Bool.not_true, Bool.not_false, forall_const, forall_false, implies_true, false_implies, true_implies, reduceCtorEq, List.set_set, mulOk_l, mulOk_r, Int.reduceEq, Int.reduceLT, Int.reduceLE, na_lit, na_neg, Nat.reduceLT, Nat.reduceLeDiff, and_self, List.length_cons, List.length_nil, Tgs.len, Nat.reduceAdd, Nat.reduceEqDiff, eq_self, decide_true, decide_false, List.getElem?_cons_zero, List.getElem?_cons_succ, Bool.and_false, Bool.false_and, Bool.or_true, Bool.or_false, Bool.true_or, Bool.false_or, and_assoc]
    refine cp_mono (near hk (by omega) (by omega)) ?_
    rintro _ S ⟨rfl, v, rfl, hv⟩
    cases v with
    | true =>
      simp only [↓wp_int, ↓wp_str, ↓wp_bl, ↓wp_non, ↓wp_gint, ↓wp_gcls, ↓wp_var, ↓wp_tup, ↓wp_lst, ↓wp_bin, ↓wp_neg, ↓wp_cmp, ↓wp_isc, ↓wp_chain, ↓wp_and, ↓wp_or, ↓wp_and1, ↓wp_and2, ↓wp_or1, ↓wp_or2, ↓wp_not, ↓wp_ifx, ↓wp_idx, ↓wp_slc, ↓wp_rev, ↓wp_fld, ↓wp_call, ↓wp_callk, ↓wp_new, ↓wp_bi, ↓wp_lrg, ↓wp_isi, ↓wp_mt, ↓wp_comp, ↓wp_gal, ↓wp_evP0, ↓wp_evP1, ↓wp_nil, ↓wp_cons, ↓wp_nilB, ↓wp_consB, ↓wp_ts0, ↓wp_ts1, ↓wo_lst, ↓wo_comp, ↓wo_lrg, ↓wo_list, ↓wo_sorted, ↓wo_rev, ↓wo_add, ↓wo_mul, ↓wi_seq, ↓wi_rng, ↓wi_enum, ↓wt_nm, ↓wt_tup, ↓wt_nil, ↓wt_cons, ↓wt_sub, ↓wt_fld, ↓ws_nil, ↓ws_asg, ↓ws_aown, ↓ws_par, ↓ws_expr, ↓ws_ret, ↓ws_retn, ↓ws_pas, ↓ws_doc, ↓ws_brk, ↓ws_cnt, ↓ws_iteN, ↓ws_ite, ↓ws_for, ↓ws_whl, srK_rt, srK_nx, srK_ct, mtX_popS, eq_nils, ne_nils, pk_nil', pk_cons', Option.toList_some, Option.toList_none, bin_powI, at_ibI, slcT_to, slcL_to, List.take_succ_cons, List.take_zero, Int.reduceNeg, Int.zero_add, setX_m1, wp_setFld, setFS_new, fld_ins, wp_compF, wp_forF, wipe_nil, wipe_cons, restore_nil, restore_cons, wip_nil, wip_cons, wipS_emp, wipS_val, tok_none, rng1, rng2, rng3, rngL1, rngL2, tok_lst, tok_tup, forK_nx, forK_ct, forK_bk, forK_rt, Bool.and_self, Bool.and_true, Bool.true_and, Int.reduceToNat, Int.toNat_natCast, Int.reduceSub, Nat.reduceSub, nums_len, wp_ok, wp_bad, wp_bind, wp_ret, wp_some, wp_none, wp_ifS, wp_ifSm, wp_ifSb, Bool.false_eq_true, wp_if, br_true, br_false, br_dec, br_not, cbr_true, cbr_false, cbr_dec, cbr_not, wp_ofRC, wp_blk, cp_ok, endK_rt, endK_nx, orc_n, orc_s, look_zero, look_succ, has_zero, has_succ, set_zero, set_succ, getS_val, getS_ownT, getS_ownF, getS_owniT, getS_owniF, view_slt, view_ref, viewS_own, viewS_owni, viewO_lst, viewO_ins, view_int, view_bl, view_str, view_non, view_tup, view_lst, view_ins, go_nx, go_rt, go_bk, go_ct, bin_addI, bin_subI, bin_mulI, bin_fdivI, bin_modI, bin_addT, bin_addL, cmp_eqI, cmp_neI, cmp_ltI, cmp_leI, cmp_gtI, cmp_geI, idx_lst, idx_tup, at_0, at_1, at_2, at_3, at_4, at_5, at_m1, len_lst, len_tup, bi_int, bi_abs, bi_intb, bi_max2, bi_min2, bi_min3, bi_tupL, bi_tupT, bi_lstL, bi_lstT, seq_lst, seq_tup, lst_lst, bl_bl, int_int, isN_int, isN_bl, isN_non, isN_tup, isN_lst, isN_str, isN_ins, isB_int, isB_tup, isB_non, isB_str, isB_tt, isB_tf, isB_ft, isB_ff, lix_n, lix_t, lix_f, Int.cast_ofNat_Int, in_lst, in_tup, nin_lst, nin_tup, srt_lst, srt_tup, eq_tups, isT_int, isT_tup, isT_lst, isT_str, isT_bl, isT_non, isT_ins, isT_nil, putS_own, putR_lst, wp_putS, wp_putR, wp_setSub, setX_0, setX_1, setX_2, setX_3, wp_mtD, mtX_pop, mtX_app, Option.map_some, Option.map_none, Option.bind_some, Option.bind_none, List.map_cons, List.map_nil, List.append_nil, List.nil_append, List.cons_append, List.replicate_succ, List.replicate_zero, true_and, and_true, if_true, if_false, ne_eq, not_true_eq_false, not_false_eq_true, Bool.not_true, Bool.not_false, forall_const, forall_false, implies_true, false_implies, true_implies, reduceCtorEq, List.set_set, mulOk_l, mulOk_r, Int.reduceEq, Int.reduceLT, Int.reduceLE, na_lit, na_neg, Nat.reduceLT, Nat.reduceLeDiff, and_self, List.length_cons, List.length_nil, Tgs.len, Nat.reduceAdd, Nat.reduceEqDiff, eq_self, decide_true, decide_false, List.getElem?_cons_zero, List.getElem?_cons_succ, Bool.and_false, Bool.false_and, Bool.or_true, Bool.or_false, Bool.true_or, Bool.false_or, and_assoc]
      exact .inl ⟨i, by omega, hv.mp rfl, hn, rfl⟩
    | false =>
      simp only [↓wp_int, ↓wp_str, ↓wp_bl, ↓wp_non, ↓wp_gint, ↓wp_gcls, ↓wp_var, ↓wp_tup, ↓wp_lst, ↓wp_bin, ↓wp_neg, ↓wp_cmp, ↓wp_isc, ↓wp_chain, ↓wp_and, ↓wp_or, ↓wp_and1, ↓wp_and2, ↓wp_or1, ↓wp_or2, ↓wp_not, ↓wp_ifx, ↓wp_idx, ↓wp_slc, ↓wp_rev, ↓wp_fld, ↓wp_call, ↓wp_callk, ↓wp_new, ↓wp_bi, ↓wp_lrg, ↓wp_isi, ↓wp_mt, ↓wp_comp, ↓wp_gal, ↓wp_evP0, ↓wp_evP1, ↓wp_nil, ↓wp_cons, ↓wp_nilB, ↓wp_consB, ↓wp_ts0, ↓wp_ts1, ↓wo_lst, ↓wo_comp, ↓wo_lrg, ↓wo_list, ↓wo_sorted, ↓wo_rev, ↓wo_add, ↓wo_mul, ↓wi_seq, ↓wi_rng, ↓wi_enum, ↓wt_nm, ↓wt_tup, ↓wt_nil, ↓wt_cons, ↓wt_sub, ↓wt_fld, ↓ws_nil, ↓ws_asg, ↓ws_aown, ↓ws_par, ↓ws_expr, ↓ws_ret, ↓ws_retn, ↓ws_pas, ↓ws_doc, ↓ws_brk, ↓ws_cnt, ↓ws_iteN, ↓ws_ite, ↓ws_for, ↓ws_whl, srK_rt, srK_nx, srK_ct, mtX_popS, eq_nils, ne_nils, pk_nil', pk_cons', Option.toList_some, Option.toList_none, bin_powI, at_ibI, slcT_to, slcL_to, List.take_succ_cons, List.take_zero, Int.reduceNeg, Int.zero_add, setX_m1, wp_setFld, setFS_new, fld_ins, wp_compF, wp_forF, wipe_nil, wipe_cons, restore_nil, restore_cons, wip_nil, wip_cons, wipS_emp, wipS_val, tok_none, rng1, rng2, rng3, rngL1, rngL2, tok_lst, tok_tup, forK_nx, forK_ct, forK_bk, forK_rt, Bool.and_self, Bool.and_true, Bool.true_and, Int.reduceToNat, Int.toNat_natCast, Int.reduceSub, Nat.reduceSub, nums_len, wp_ok, wp_bad, wp_bind, wp_ret, wp_some, wp_none, wp_ifS, wp_ifSm, wp_ifSb, Bool.false_eq_true, wp_if, br_true, br_false, br_dec, br_not, cbr_true, cbr_false, cbr_dec, cbr_not, wp_ofRC, wp_blk, cp_ok, endK_rt, endK_nx, orc_n, orc_s, look_zero, look_succ, has_zero, has_succ, set_zero, set_succ, getS_val, getS_ownT, getS_ownF, getS_owniT, getS_owniF, view_slt, view_ref, viewS_own, viewS_owni, viewO_lst, viewO_ins, view_int, view_bl, view_str, view_non, view_tup, view_lst, view_ins, go_nx, go_rt, go_bk, go_ct, bin_addI, bin_subI, bin_mulI, bin_fdivI, bin_modI, bin_addT, bin_addL, cmp_eqI, cmp_neI, cmp_ltI, cmp_leI, cmp_gtI, cmp_geI, idx_lst, idx_tup, at_0, at_1, at_2, at_3, at_4, at_5, at_m1, len_lst, len_tup, bi_int, bi_abs, bi_intb, bi_max2, bi_min2, bi_min3, bi_tupL, bi_tupT, bi_lstL, bi_lstT, seq_lst, seq_tup, lst_lst, bl_bl, int_int, isN_int, isN_bl, isN_non, isN_tup, isN_lst, isN_str, isN_ins, isB_int, isB_tup, isB_non, isB_str, isB_tt, isB_tf, isB_ft, isB_ff, lix_n, lix_t, lix_f, Int.cast_ofNat_Int, in_lst, in_tup, nin_lst, nin_tup, srt_lst, srt_tup, eq_tups, isT_int, isT_tup, isT_lst, isT_str, isT_bl, isT_non, isT_ins, isT_nil, putS_own, putR_lst, wp_putS, wp_putR, wp_setSub, setX_0, setX_1, setX_2, setX_3, wp_mtD, mtX_pop, mtX_app, Option.map_some, Option.map_none, Option.bind_some, Option.bind_none, List.map_cons, List.map_nil, List.append_nil, List.nil_append, List.cons_append, List.replicate_succ, List.replicate_zero, true_and, and_true, if_true, if_false, ne_eq, not_true_eq_false, not_false_eq_true, Bool.not_true, Bool.not_false, forall_const, forall_false, implies_true, false_implies, true_implies, reduceCtorEq, List.set_set, mulOk_l, mulOk_r, Int.reduceEq, Int.reduceLT, Int.reduceLE, na_lit, na_neg, Nat.reduceLT, Nat.reduceLeDiff, and_self, List.length_cons, List.length_nil, Tgs.len, Nat.reduceAdd, Nat.reduceEqDiff, eq_self, decide_true, decide_false, List.getElem?_cons_zero, List.getElem?_cons_succ, Bool.and_false, Bool.false_and, Bool.or_true, Bool.or_false, Bool.true_or, Bool.false_or, and_assoc]
      refine ⟨fun v hv2 => ?_, _, rfl⟩
      by_cases e : v = i
      · subst e
        intro h
        exact absurd (hv.mpr h) Bool.false_ne_true
      · exact hn v (by omega)
  · rintro s' ⟨hn, w, rfl⟩
    rw [nums_len, span_len] at hn
    refine ⟨rfl, ?_⟩
    simp only [↓wp_int, ↓wp_str, ↓wp_bl, ↓wp_non, ↓wp_gint, ↓wp_gcls, ↓wp_var, ↓wp_tup, ↓wp_lst, ↓wp_bin, ↓wp_neg, ↓wp_cmp, ↓wp_isc, ↓wp_chain, ↓wp_and, ↓wp_or, ↓wp_and1, ↓wp_and2, ↓wp_or1, ↓wp_or2, ↓wp_not, ↓wp_ifx, ↓wp_idx, ↓wp_slc, ↓wp_rev, ↓wp_fld, ↓wp_call, ↓wp_callk, ↓wp_new, ↓wp_bi, ↓wp_lrg, ↓wp_isi, ↓wp_mt, ↓wp_comp, ↓wp_gal, ↓wp_evP0, ↓wp_evP1, ↓wp_nil, ↓wp_cons, ↓wp_nilB, ↓wp_consB, ↓wp_ts0, ↓wp_ts1, ↓wo_lst, ↓wo_comp, ↓wo_lrg, ↓wo_list, ↓wo_sorted, ↓wo_rev, ↓wo_add, ↓wo_mul, ↓wi_seq, ↓wi_rng, ↓wi_enum, ↓wt_nm, ↓wt_tup, ↓wt_nil, ↓wt_cons, ↓wt_sub, ↓wt_fld, ↓ws_nil, ↓ws_asg, ↓ws_aown, ↓ws_par, ↓ws_expr, ↓ws_ret, ↓ws_retn, ↓ws_pas, ↓ws_doc, ↓ws_brk, ↓ws_cnt, ↓ws_iteN, ↓ws_ite, ↓ws_for, ↓ws_whl, srK_rt, srK_nx, srK_ct, mtX_popS, eq_nils, ne_nils, pk_nil', pk_cons', Option.toList_some, Option.toList_none, bin_powI, at_ibI, slcT_to, slcL_to, List.take_succ_cons, List.take_zero, Int.reduceNeg, Int.zero_add, setX_m1, wp_setFld, setFS_new, fld_ins, wp_compF, wp_forF, wipe_nil, wipe_cons, restore_nil, restore_cons, wip_nil, wip_cons, wipS_emp, wipS_val, tok_none, rng1, rng2, rng3, rngL1, rngL2, tok_lst, tok_tup, forK_nx, forK_ct, forK_bk, forK_rt, Bool.and_self, Bool.and_true, Bool.true_and, Int.reduceToNat, Int.toNat_natCast, Int.reduceSub, Nat.reduceSub, nums_len, wp_ok, wp_bad, wp_bind, wp_ret, wp_some, wp_none, wp_ifS, wp_ifSm, wp_ifSb, Bool.false_eq_true, wp_if, br_true, br_false, br_dec, br_not, cbr_true, cbr_false, cbr_dec, cbr_not, wp_ofRC, wp_blk, cp_ok, endK_rt, endK_nx, orc_n, orc_s, look_zero, look_succ, has_zero, has_succ, set_zero, set_succ, getS_val, getS_ownT, getS_ownF, getS_owniT, getS_owniF, view_slt, view_ref, viewS_own, viewS_owni, viewO_lst, viewO_ins, view_int, view_bl, view_str, view_non, view_tup, view_lst, view_ins, go_nx, go_rt, go_bk, go_ct, bin_addI, bin_subI, bin_mulI, bin_fdivI, bin_modI, bin_addT, bin_addL, cmp_eqI, cmp_neI, cmp_ltI, cmp_leI, cmp_gtI, cmp_geI, idx_lst, idx_tup, at_0, at_1, at_2, at_3, at_4, at_5, at_m1, len_lst, len_tup, bi_int, bi_abs, bi_intb, bi_max2, bi_min2, bi_min3, bi_tupL, bi_tupT, bi_lstL, bi_lstT, seq_lst, seq_tup, lst_lst, bl_bl, int_int, isN_int, isN_bl, isN_non, isN_tup, isN_lst, isN_str, isN_ins, isB_int, isB_tup, isB_non, isB_str, isB_tt, isB_tf, isB_ft, isB_ff, lix_n, lix_t, lix_f, Int.cast_ofNat_Int, in_lst, in_tup, nin_lst, nin_tup, srt_lst, srt_tup, eq_tups, isT_int, isT_tup, isT_lst, isT_str, isT_bl, isT_non, isT_ins, isT_nil, putS_own, putR_lst, wp_putS, wp_putR, wp_setSub, setX_0, setX_1, setX_2, setX_3, wp_mtD, mtX_pop, mtX_app, Option.map_some, Option.map_none, Option.bind_some, Option.bind_none, List.map_cons, List.map_nil, List.append_nil, List.nil_append, List.cons_append, List.replicate_succ, List.replicate_zero, true_and, and_true, if_true, if_false, ne_eq, not_true_eq_false, not_false_eq_true, Bool.not_true, Bool.not_false, forall_const, forall_false, implies_true, false_implies, true_implies, reduceCtorEq, List.set_set, mulOk_l, mulOk_r, Int.reduceEq, Int.reduceLT, Int.reduceLE, na_lit, na_neg, Nat.reduceLT, Nat.reduceLeDiff, and_self, List.length_cons, List.length_nil, Tgs.len, Nat.reduceAdd, Nat.reduceEqDiff, eq_self, decide_true, decide_false, List.getElem?_cons_zero, List.getElem?_cons_succ, Bool.and_false, Bool.false_and, Bool.or_true, Bool.or_false, Bool.true_or, Bool.false_or, and_assoc, b1, b2, e2]
    refine ⟨by omega, ?_⟩
    refine wp_forN (fun i s' => (0 < s → ∀ v, s < v → v < s + 1 + i → ¬ FarP k f a b c s v) ∧ ∃ w, s' = ⟨[.val (.tup [.int k, .int f, .int d, .int a, .int b, .int c]), .val (.int s), .val (.int k), w], S⟩) ⟨fun _ v h1 h2 => by omega, _, rfl⟩ ?_ ?_
    · rintro i x s' hx ⟨hn2, w, rfl⟩
      obtain ⟨hi, rfl⟩ := span_get hx
      have e3 : (s : Int) + 1 + i = ((s + 1 + i : Nat) : Int) := by omega
      refine ⟨rfl, ?_⟩
      simp only [↓wp_int, ↓wp_str, ↓wp_bl, ↓wp_non, ↓wp_gint, ↓wp_gcls, ↓wp_var, ↓wp_tup, ↓wp_lst, ↓wp_bin, ↓wp_neg, ↓wp_cmp, ↓wp_isc, ↓wp_chain, ↓wp_and, ↓wp_or, ↓wp_and1, ↓wp_and2, ↓wp_or1, ↓wp_or2, ↓wp_not, ↓wp_ifx, ↓wp_idx, ↓wp_slc, ↓wp_rev, ↓wp_fld, ↓wp_call, ↓wp_callk, ↓wp_new, ↓wp_bi, ↓wp_lrg, ↓wp_isi, ↓wp_mt, ↓wp_comp, ↓wp_gal, ↓wp_evP0, ↓wp_evP1, ↓wp_nil, ↓wp_cons, ↓wp_nilB, ↓wp_consB, ↓wp_ts0, ↓wp_ts1, ↓wo_lst, ↓wo_comp, ↓wo_lrg, ↓wo_list, ↓wo_sorted, ↓wo_rev, ↓wo_add, ↓wo_mul, ↓wi_seq, ↓wi_rng, ↓wi_enum, ↓wt_nm, ↓wt_tup, ↓wt_nil, ↓wt_cons, ↓wt_sub, ↓wt_fld, ↓ws_nil, ↓ws_asg, ↓ws_aown, ↓ws_par, ↓ws_expr, ↓ws_ret, ↓ws_retn, ↓ws_pas, ↓ws_doc, ↓ws_brk, ↓ws_cnt, ↓ws_iteN, ↓ws_ite, ↓ws_for, ↓ws_whl, srK_rt, srK_nx, srK_ct, mtX_popS, eq_nils, ne_nils, pk_nil', pk_cons', Option.toList_some, Option.toList_none, bin_powI, at_ibI, slcT_to, slcL_to, List.take_succ_cons, List.take_zero, Int.reduceNeg, Int.zero_add, setX_m1, wp_setFld, setFS_new, fld_ins, wp_compF, wp_forF, wipe_nil, wipe_cons, restore_nil, restore_cons, wip_nil, wip_cons, wipS_emp, wipS_val, tok_none, rng1, rng2, rng3, rngL1, rngL2, tok_lst, tok_tup, forK_nx, forK_ct, forK_bk, forK_rt, Bool.and_self, Bool.and_true, Bool.true_and, Int.reduceToNat, Int.toNat_natCast, Int.reduceSub, Nat.reduceSub, nums_len, wp_ok, wp_bad, wp_bind, wp_ret, wp_some, wp_none, wp_ifS, wp_ifSm, wp_ifSb, Bool.false_eq_true, wp_if, br_true, br_false, br_dec, br_not, cbr_true, cbr_false, cbr_dec, cbr_not, wp_ofRC, wp_blk, cp_ok, endK_rt, endK_nx, orc_n, orc_s, look_zero, look_succ, has_zero, has_succ, set_zero, set_succ, getS_val, getS_ownT, getS_ownF, getS_owniT, getS_owniF, view_slt, view_ref, viewS_own, viewS_owni, viewO_lst, viewO_ins, view_int, view_bl, view_str, view_non, view_tup, view_lst, view_ins, go_nx, go_rt, go_bk, go_ct, bin_addI, bin_subI, bin_mulI, bin_fdivI, bin_modI, bin_addT, bin_addL, cmp_eqI, cmp_neI, cmp_ltI, cmp_leI, cmp_gtI, cmp_geI, idx_lst, idx_tup, at_0, at_1, at_2, at_3, at_4, at_5, at_m1, len_lst, len_tup, bi_int, bi_abs, bi_intb, bi_max2, bi_min2, bi_min3, bi_tupL, bi_tupT, bi_lstL, bi_lstT, seq_lst, seq_tup, lst_lst, bl_bl, int_int, isN_int, isN_bl, isN_non, isN_tup, isN_lst, isN_str, isN_ins, isB_int, isB_tup, isB_non, isB_str, isB_tt, isB_tf, isB_ft, isB_ff, lix_n, lix_t, lix_f, Int.cast_ofNat_Int, in_lst, in_tup, nin_lst, nin_tup, srt_lst, srt_tup, eq_tups, isT_int, isT_tup, isT_lst, isT_str, isT_bl, isT_non, isT_ins, isT_nil, putS_own, putR_lst, wp_putS, wp_putR, wp_setSub, setX_0, setX_1, setX_2, setX_3, wp_mtD, mtX_pop, mtX_app, Option.map_some, Option.map_none, Option.bind_some, Option.bind_none, List.map_cons, List.map_nil, List.append_nil, List.nil_append, List.cons_append, List.replicate_succ, List.replicate_zero, true_and, and_true, if_true, if_false, ne_eq, not_true_eq_false, not_false_eq_true, Bool.not_true, Bool.not_false, forall_const, forall_false, implies_true, false_implies, true_implies, reduceCtorEq, List.set_set, mulOk_l, mulOk_r, Int.reduceEq, Int.reduceLT, Int.reduceLE, na_lit, na_neg, Nat.reduceLT, Nat.reduceLeDiff, and_self, List.length_cons, List.length_nil, Tgs.len, Nat.reduceAdd, Nat.reduceEqDiff, eq_self, decide_true, decide_false, List.getElem?_cons_zero, List.getElem?_cons_succ, Bool.and_false, Bool.false_and, Bool.or_true, Bool.or_false, Bool.true_or, Bool.false_or, and_assoc, e3]
      refine ⟨fun h0 => ?_, fun h0 => ⟨fun h => (h0 (by omega)).elim, _, rfl⟩⟩
      refine cp_mono (far hk (by omega) (by omega)) ?_
      rintro _ S ⟨rfl, v, rfl, hv⟩
      cases v with
      | true =>
        simp only [↓wp_int, ↓wp_str, ↓wp_bl, ↓wp_non, ↓wp_gint, ↓wp_gcls, ↓wp_var, ↓wp_tup, ↓wp_lst, ↓wp_bin, ↓wp_neg, ↓wp_cmp, ↓wp_isc, ↓wp_chain, ↓wp_and, ↓wp_or, ↓wp_and1, ↓wp_and2, ↓wp_or1, ↓wp_or2, ↓wp_not, ↓wp_ifx, ↓wp_idx, ↓wp_slc, ↓wp_rev, ↓wp_fld, ↓wp_call, ↓wp_callk, ↓wp_new, ↓wp_bi, ↓wp_lrg, ↓wp_isi, ↓wp_mt, ↓wp_comp, ↓wp_gal, ↓wp_evP0, ↓wp_evP1, ↓wp_nil, ↓wp_cons, ↓wp_nilB, ↓wp_consB, ↓wp_ts0, ↓wp_ts1, ↓wo_lst, ↓wo_comp, ↓wo_lrg, ↓wo_list, ↓wo_sorted, ↓wo_rev, ↓wo_add, ↓wo_mul, ↓wi_seq, ↓wi_rng, ↓wi_enum, ↓wt_nm, ↓wt_tup, ↓wt_nil, ↓wt_cons, ↓wt_sub, ↓wt_fld, ↓ws_nil, ↓ws_asg, ↓ws_aown, ↓ws_par, ↓ws_expr, ↓ws_ret, ↓ws_retn, ↓ws_pas, ↓ws_doc, ↓ws_brk, ↓ws_cnt, ↓ws_iteN, ↓ws_ite, ↓ws_for, ↓ws_whl, srK_rt, srK_nx, srK_ct, mtX_popS, eq_nils, ne_nils, pk_nil', pk_cons', Option.toList_some, Option.toList_none, bin_powI, at_ibI, slcT_to, slcL_to, List.take_succ_cons, List.take_zero, Int.reduceNeg, Int.zero_add, setX_m1, wp_setFld, setFS_new, fld_ins, wp_compF, wp_forF, wipe_nil, wipe_cons, restore_nil, restore_cons, wip_nil, wip_cons, wipS_emp, wipS_val, tok_none, rng1, rng2, rng3, rngL1, rngL2, tok_lst, tok_tup, forK_nx, forK_ct, forK_bk, forK_rt, Bool.and_self, Bool.and_true, Bool.true_and, Int.reduceToNat, Int.toNat_natCast, Int.reduceSub, Nat.reduceSub, nums_len, wp_ok, wp_bad, wp_bind, wp_ret, wp_some, wp_none, wp_ifS, wp_ifSm, wp_ifSb, Bool.false_eq_true, wp_if, br_true, br_false, br_dec, br_not, cbr_true, cbr_false, cbr_dec, cbr_not, wp_ofRC, wp_blk, cp_ok, endK_rt, endK_nx, orc_n, orc_s, look_zero, look_succ, has_zero, has_succ, set_zero, set_succ, getS_val, getS_ownT, getS_ownF, getS_owniT, getS_owniF, view_slt, view_ref, viewS_own, viewS_owni, viewO_lst, viewO_ins, view_int, view_bl, view_str, view_non, view_tup, view_lst, view_ins, go_nx, go_rt, go_bk, go_ct, bin_addI, bin_subI, bin_mulI, bin_fdivI, bin_modI, bin_addT, bin_addL, cmp_eqI, cmp_neI, cmp_ltI, cmp_leI, cmp_gtI, cmp_geI, idx_lst, idx_tup, at_0, at_1, at_2, at_3, at_4, at_5, at_m1, len_lst, len_tup, bi_int, bi_abs, bi_intb, bi_max2, bi_min2, bi_min3, bi_tupL, bi_tupT, bi_lstL, bi_lstT, seq_lst, seq_tup, lst_lst, bl_bl, int_int, isN_int, isN_bl, isN_non, isN_tup, isN_lst, isN_str, isN_ins, isB_int, isB_tup, isB_non, isB_str, isB_tt, isB_tf, isB_ft, isB_ff, lix_n, lix_t, lix_f, Int.cast_ofNat_Int, in_lst, in_tup, nin_lst, nin_tup, srt_lst, srt_tup, eq_tups, isT_int, isT_tup, isT_lst, isT_str, isT_bl, isT_non, isT_ins, isT_nil, putS_own, putR_lst, wp_putS, wp_putR, wp_setSub, setX_0, setX_1, setX_2, setX_3, wp_mtD, mtX_pop, mtX_app, Option.map_some, Option.map_none, Option.bind_some, Option.bind_none, List.map_cons, List.map_nil, List.append_nil, List.nil_append, List.cons_append, List.replicate_succ, List.replicate_zero, true_and, and_true, if_true, if_false, ne_eq, not_true_eq_false, not_false_eq_true, Bool.not_true, Bool.not_false, forall_const, forall_false, implies_true, false_implies, true_implies, reduceCtorEq, List.set_set, mulOk_l, mulOk_r, Int.reduceEq, Int.reduceLT, Int.reduceLE, na_lit, na_neg, Nat.reduceLT, Nat.reduceLeDiff, and_self, List.length_cons, List.length_nil, Tgs.len, Nat.reduceAdd, Nat.reduceEqDiff, eq_self, decide_true, decide_false, List.getElem?_cons_zero, List.getElem?_cons_succ, Bool.and_false, Bool.false_and, Bool.or_true, Bool.or_false, Bool.true_or, Bool.false_or, and_assoc]
        exact .inr ⟨fun u hu => hn u (by omega), .inl ⟨s + 1 + i, by omega, by omega, by omega, hv.mp rfl, fun v h1 h2 => hn2 (by omega) v h1 h2, rfl⟩⟩
      | false =>
        simp only [↓wp_int, ↓wp_str, ↓wp_bl, ↓wp_non, ↓wp_gint, ↓wp_gcls, ↓wp_var, ↓wp_tup, ↓wp_lst, ↓wp_bin, ↓wp_neg, ↓wp_cmp, ↓wp_isc, ↓wp_chain, ↓wp_and, ↓wp_or, ↓wp_and1, ↓wp_and2, ↓wp_or1, ↓wp_or2, ↓wp_not, ↓wp_ifx, ↓wp_idx, ↓wp_slc, ↓wp_rev, ↓wp_fld, ↓wp_call, ↓wp_callk, ↓wp_new, ↓wp_bi, ↓wp_lrg, ↓wp_isi, ↓wp_mt, ↓wp_comp, ↓wp_gal, ↓wp_evP0, ↓wp_evP1, ↓wp_nil, ↓wp_cons, ↓wp_nilB, ↓wp_consB, ↓wp_ts0, ↓wp_ts1, ↓wo_lst, ↓wo_comp, ↓wo_lrg, ↓wo_list, ↓wo_sorted, ↓wo_rev, ↓wo_add, ↓wo_mul, ↓wi_seq, ↓wi_rng, ↓wi_enum, ↓wt_nm, ↓wt_tup, ↓wt_nil, ↓wt_cons, ↓wt_sub, ↓wt_fld, ↓ws_nil, ↓ws_asg, ↓ws_aown, ↓ws_par, ↓ws_expr, ↓ws_ret, ↓ws_retn, ↓ws_pas, ↓ws_doc, ↓ws_brk, ↓ws_cnt, ↓ws_iteN, ↓ws_ite, ↓ws_for, ↓ws_whl, srK_rt, srK_nx, srK_ct, mtX_popS, eq_nils, ne_nils, pk_nil', pk_cons', Option.toList_some, Option.toList_none, bin_powI, at_ibI, slcT_to, slcL_to, List.take_succ_cons, List.take_zero, Int.reduceNeg, Int.zero_add, setX_m1, wp_setFld, setFS_new, fld_ins, wp_compF, wp_forF, wipe_nil, wipe_cons, restore_nil, restore_cons, wip_nil, wip_cons, wipS_emp, wipS_val, tok_none, rng1, rng2, rng3, rngL1, rngL2, tok_lst, tok_tup, forK_nx, forK_ct, forK_bk, forK_rt, Bool.and_self, Bool.and_true, Bool.true_and, Int.reduceToNat, Int.toNat_natCast, Int.reduceSub, Nat.reduceSub, nums_len, wp_ok, wp_bad, wp_bind, wp_ret, wp_some, wp_none, wp_ifS, wp_ifSm, wp_ifSb, Bool.false_eq_true, wp_if, br_true, br_false, br_dec, br_not, cbr_true, cbr_false, cbr_dec, cbr_not, wp_ofRC, wp_blk, cp_ok, endK_rt, endK_nx, orc_n, orc_s, look_zero, look_succ, has_zero, has_succ, set_zero, set_succ, getS_val, getS_ownT, getS_ownF, getS_owniT, getS_owniF, view_slt, view_ref, viewS_own, viewS_owni, viewO_lst, viewO_ins, view_int, view_bl, view_str, view_non, view_tup, view_lst, view_ins, go_nx, go_rt, go_bk, go_ct, bin_addI, bin_subI, bin_mulI, bin_fdivI, bin_modI, bin_addT, bin_addL, cmp_eqI, cmp_neI, cmp_ltI, cmp_leI, cmp_gtI, cmp_geI, idx_lst, idx_tup, at_0, at_1, at_2, at_3, at_4, at_5, at_m1, len_lst, len_tup, bi_int, bi_abs, bi_intb, bi_max2, bi_min2, bi_min3, bi_tupL, bi_tupT, bi_lstL, bi_lstT, seq_lst, seq_tup, lst_lst, bl_bl, int_int, isN_int, isN_bl, isN_non, isN_tup, isN_lst, isN_str, isN_ins, isB_int, isB_tup, isB_non, isB_str, isB_tt, isB_tf, isB_ft, isB_ff, lix_n, lix_t, lix_f, Int.cast_ofNat_Int, in_lst, in_tup, nin_lst, nin_tup, srt_lst, srt_tup, eq_tups, isT_int, isT_tup, isT_lst, isT_str, isT_bl, isT_non, isT_ins, isT_nil, putS_own, putR_lst, wp_putS, wp_putR, wp_setSub, setX_0, setX_1, setX_2, setX_3, wp_mtD, mtX_pop, mtX_app, Option.map_some, Option.map_none, Option.bind_some, Option.bind_none, List.map_cons, List.map_nil, List.append_nil, List.nil_append, List.cons_append, List.replicate_succ, List.replicate_zero, true_and, and_true, if_true, if_false, ne_eq, not_true_eq_false, not_false_eq_true, Bool.not_true, Bool.not_false, forall_const, forall_false, implies_true, false_implies, true_implies, reduceCtorEq, List.set_set, mulOk_l, mulOk_r, Int.reduceEq, Int.reduceLT, Int.reduceLE, na_lit, na_neg, Nat.reduceLT, Nat.reduceLeDiff, and_self, List.length_cons, List.length_nil, Tgs.len, Nat.reduceAdd, Nat.reduceEqDiff, eq_self, decide_true, decide_false, List.getElem?_cons_zero, List.getElem?_cons_succ, Bool.and_false, Bool.false_and, Bool.or_true, Bool.or_false, Bool.true_or, Bool.false_or, and_assoc]
        refine ⟨fun _ v h1 h2 => ?_, _, rfl⟩
        by_cases e : v = s + 1 + i
        · subst e
          intro h
          exact absurd (hv.mpr h) Bool.false_ne_true
        · exact hn2 (by omega) v h1 (by omega)
    · rintro s' ⟨hn2, w, rfl⟩
      rw [nums_len, span_len] at hn2
      refine ⟨rfl, ?_⟩
      simp only [↓wp_int, ↓wp_str, ↓wp_bl, ↓wp_non, ↓wp_gint, ↓wp_gcls, ↓wp_var, ↓wp_tup, ↓wp_lst, ↓wp_bin, ↓wp_neg, ↓wp_cmp, ↓wp_isc, ↓wp_chain, ↓wp_and, ↓wp_or, ↓wp_and1, ↓wp_and2, ↓wp_or1, ↓wp_or2, ↓wp_not, ↓wp_ifx, ↓wp_idx, ↓wp_slc, ↓wp_rev, ↓wp_fld, ↓wp_call, ↓wp_callk, ↓wp_new, ↓wp_bi, ↓wp_lrg, ↓wp_isi, ↓wp_mt, ↓wp_comp, ↓wp_gal, ↓wp_evP0, ↓wp_evP1, ↓wp_nil, ↓wp_cons, ↓wp_nilB, ↓wp_consB, ↓wp_ts0, ↓wp_ts1, ↓wo_lst, ↓wo_comp, ↓wo_lrg, ↓wo_list, ↓wo_sorted, ↓wo_rev, ↓wo_add, ↓wo_mul, ↓wi_seq, ↓wi_rng, ↓wi_enum, ↓wt_nm, ↓wt_tup, ↓wt_nil, ↓wt_cons, ↓wt_sub, ↓wt_fld, ↓ws_nil, ↓ws_asg, ↓ws_aown, ↓ws_par, ↓ws_expr, ↓ws_ret, ↓ws_retn, ↓ws_pas, ↓ws_doc, ↓ws_brk, ↓ws_cnt, ↓ws_iteN, ↓ws_ite, ↓ws_for, ↓ws_whl, srK_rt, srK_nx, srK_ct, mtX_popS, eq_nils, ne_nils, pk_nil', pk_cons', Option.toList_some, Option.toList_none, bin_powI, at_ibI, slcT_to, slcL_to, List.take_succ_cons, List.take_zero, Int.reduceNeg, Int.zero_add, setX_m1, wp_setFld, setFS_new, fld_ins, wp_compF, wp_forF, wipe_nil, wipe_cons, restore_nil, restore_cons, wip_nil, wip_cons, wipS_emp, wipS_val, tok_none, rng1, rng2, rng3, rngL1, rngL2, tok_lst, tok_tup, forK_nx, forK_ct, forK_bk, forK_rt, Bool.and_self, Bool.and_true, Bool.true_and, Int.reduceToNat, Int.toNat_natCast, Int.reduceSub, Nat.reduceSub, nums_len, wp_ok, wp_bad, wp_bind, wp_ret, wp_some, wp_none, wp_ifS, wp_ifSm, wp_ifSb, Bool.false_eq_true, wp_if, br_true, br_false, br_dec, br_not, cbr_true, cbr_false, cbr_dec, cbr_not, wp_ofRC, wp_blk, cp_ok, endK_rt, endK_nx, orc_n, orc_s, look_zero, look_succ, has_zero, has_succ, set_zero, set_succ, getS_val, getS_ownT, getS_ownF, getS_owniT, getS_owniF, view_slt, view_ref, viewS_own, viewS_owni, viewO_lst, viewO_ins, view_int, view_bl, view_str, view_non, view_tup, view_lst, view_ins, go_nx, go_rt, go_bk, go_ct, bin_addI, bin_subI, bin_mulI, bin_fdivI, bin_modI, bin_addT, bin_addL, cmp_eqI, cmp_neI, cmp_ltI, cmp_leI, cmp_gtI, cmp_geI, idx_lst, idx_tup, at_0, at_1, at_2, at_3, at_4, at_5, at_m1, len_lst, len_tup, bi_int, bi_abs, bi_intb, bi_max2, bi_min2, bi_min3, bi_tupL, bi_tupT, bi_lstL, bi_lstT, seq_lst, seq_tup, lst_lst, bl_bl, int_int, isN_int, isN_bl, isN_non, isN_tup, isN_lst, isN_str, isN_ins, isB_int, isB_tup, isB_non, isB_str, isB_tt, isB_tf, isB_ft, isB_ff, lix_n, lix_t, lix_f, Int.cast_ofNat_Int, in_lst, in_tup, nin_lst, nin_tup, srt_lst, srt_tup, eq_tups, isT_int, isT_tup, isT_lst, isT_str, isT_bl, isT_non, isT_ins, isT_nil, putS_own, putR_lst, wp_putS, wp_putR, wp_setSub, setX_0, setX_1, setX_2, setX_3, wp_mtD, mtX_pop, mtX_app, Option.map_some, Option.map_none, Option.bind_some, Option.bind_none, List.map_cons, List.map_nil, List.append_nil, List.nil_append, List.cons_append, List.replicate_succ, List.replicate_zero, true_and, and_true, if_true, if_false, ne_eq, not_true_eq_false, not_false_eq_true, Bool.not_true, Bool.not_false, forall_const, forall_false, implies_true, false_implies, true_implies, reduceCtorEq, List.set_set, mulOk_l, mulOk_r, Int.reduceEq, Int.reduceLT, Int.reduceLE, na_lit, na_neg, Nat.reduceLT, Nat.reduceLeDiff, and_self, List.length_cons, List.length_nil, Tgs.len, Nat.reduceAdd, Nat.reduceEqDiff, eq_self, decide_true, decide_false, List.getElem?_cons_zero, List.getElem?_cons_succ, Bool.and_false, Bool.false_and, Bool.or_true, Bool.or_false, Bool.true_or, Bool.false_or, and_assoc]
      exact .inr ⟨fun u hu => hn u (by omega), .inr ⟨fun h0 v h1 h2 => hn2 h0 v h1 (by omega), rfl⟩⟩
/-- trying all lots tells what the sums tell -/
theorem all_apart {k f a b c s : Nat} {x : D} (hk : k ≤ 4) (hf : f ≤ 2) (hf2 : f ≤ k) (ha : a ≤ k) (hb : b ≤ k) (hc : c ≤ k) (hs : s ≤ k) (h : ByAllP k f a b c s x) : x = apartS k f a b c s := by
  unfold apartS
  have N := fun (u : Nat) (hu : u ≤ k) => nr_iff (f := f) hk ha hu (by omega)
  have F := fun (u : Nat) => fr_iff (u := u) (c := c) (s := s) hk hf hf2 ha hb (by omega)
  rcases h with ⟨u, hu, n, m, rfl⟩ | ⟨n, ⟨u, h1, h2, h0, fr, m, rfl⟩ | ⟨m, rfl⟩⟩
  · have n := (N u (by omega)).mp n
    rw [if_pos (by omega)]
    congr 1
    by_cases z : u = 0
    · omega
    · have m := m (u - 1) (by omega)
      rw [N (u - 1) (by omega)] at m
      omega
  · have n := n s (Nat.le_refl _)
    rw [N s hs] at n
    have fr := (F u).mp fr
    rw [if_neg (by omega), if_pos (by omega)]
    congr 1
    by_cases z : u = s + 1
    · omega
    · have m := m (u - 1) (by omega) (by omega)
      rw [F (u - 1)] at m
      omega
  · have n := n s (Nat.le_refl _)
    rw [N s hs] at n
    rw [if_neg (by omega)]
    rw [if_neg]
    rintro ⟨z, e⟩
    have m := m (by omega) k
    by_cases q : s < k
    · have m := m q (Nat.le_refl _)
      rw [F k] at m
      omega
    · omega
theorem ne_non : cmpD .ne .non .non = some false := by decide
theorem law_ok {ns : List Int} : CP TrueP .mk (callF T 40 f_law none [.lst (nums ns)] []) := by
  refine cp_run T_law rfl (by decide) ?_
  simp only [↓wp_int, ↓wp_str, ↓wp_bl, ↓wp_non, ↓wp_gint, ↓wp_gcls, ↓wp_var, ↓wp_tup, ↓wp_lst, ↓wp_bin, ↓wp_neg, ↓wp_cmp, ↓wp_isc, ↓wp_chain, ↓wp_and, ↓wp_or, ↓wp_and1, ↓wp_and2, ↓wp_or1, ↓wp_or2, ↓wp_not, ↓wp_ifx, ↓wp_idx, ↓wp_slc, ↓wp_rev, ↓wp_fld, ↓wp_call, ↓wp_callk, ↓wp_new, ↓wp_bi, ↓wp_lrg, ↓wp_isi, ↓wp_mt, ↓wp_comp, ↓wp_gal, ↓wp_evP0, ↓wp_evP1, ↓wp_nil, ↓wp_cons, ↓wp_nilB, ↓wp_consB, ↓wp_ts0, ↓wp_ts1, ↓wo_lst, ↓wo_comp, ↓wo_lrg, ↓wo_list, ↓wo_sorted, ↓wo_rev, ↓wo_add, ↓wo_mul, ↓wi_seq, ↓wi_rng, ↓wi_enum, ↓wt_nm, ↓wt_tup, ↓wt_nil, ↓wt_cons, ↓wt_sub, ↓wt_fld, ↓ws_nil, ↓ws_asg, ↓ws_aown, ↓ws_par, ↓ws_expr, ↓ws_ret, ↓ws_retn, ↓ws_pas, ↓ws_doc, ↓ws_brk, ↓ws_cnt, ↓ws_iteN, ↓ws_ite, ↓ws_for, ↓ws_whl, srK_rt, srK_nx, srK_ct, mtX_popS, eq_nils, ne_nils, pk_nil', pk_cons', Option.toList_some, Option.toList_none, bin_powI, at_ibI, slcT_to, slcL_to, List.take_succ_cons, List.take_zero, Int.reduceNeg, Int.zero_add, setX_m1, wp_setFld, setFS_new, fld_ins, wp_compF, wp_forF, wipe_nil, wipe_cons, restore_nil, restore_cons, wip_nil, wip_cons, wipS_emp, wipS_val, tok_none, rng1, rng2, rng3, rngL1, rngL2, tok_lst, tok_tup, forK_nx, forK_ct, forK_bk, forK_rt, Bool.and_self, Bool.and_true, Bool.true_and, Int.reduceToNat, Int.toNat_natCast, Int.reduceSub, Nat.reduceSub, nums_len, wp_ok, wp_bad, wp_bind, wp_ret, wp_some, wp_none, wp_ifS, wp_ifSm, wp_ifSb, Bool.false_eq_true, wp_if, br_true, br_false, br_dec, br_not, cbr_true, cbr_false, cbr_dec, cbr_not, wp_ofRC, wp_blk, cp_ok, endK_rt, endK_nx, orc_n, orc_s, look_zero, look_succ, has_zero, has_succ, set_zero, set_succ, getS_val, getS_ownT, getS_ownF, getS_owniT, getS_owniF, view_slt, view_ref, viewS_own, viewS_owni, viewO_lst, viewO_ins, view_int, view_bl, view_str, view_non, view_tup, view_lst, view_ins, go_nx, go_rt, go_bk, go_ct, bin_addI, bin_subI, bin_mulI, bin_fdivI, bin_modI, bin_addT, bin_addL, cmp_eqI, cmp_neI, cmp_ltI, cmp_leI, cmp_gtI, cmp_geI, idx_lst, idx_tup, at_0, at_1, at_2, at_3, at_4, at_5, at_m1, len_lst, len_tup, bi_int, bi_abs, bi_intb, bi_max2, bi_min2, bi_min3, bi_tupL, bi_tupT, bi_lstL, bi_lstT, seq_lst, seq_tup, lst_lst, bl_bl, int_int, isN_int, isN_bl, isN_non, isN_tup, isN_lst, isN_str, isN_ins, isB_int, isB_tup, isB_non, isB_str, isB_tt, isB_tf, isB_ft, isB_ff, lix_n, lix_t, lix_f, Int.cast_ofNat_Int, in_lst, in_tup, nin_lst, nin_tup, srt_lst, srt_tup, eq_tups, isT_int, isT_tup, isT_lst, isT_str, isT_bl, isT_non, isT_ins, isT_nil, putS_own, putR_lst, wp_putS, wp_putR, wp_setSub, setX_0, setX_1, setX_2, setX_3, wp_mtD, mtX_pop, mtX_app, Option.map_some, Option.map_none, Option.bind_some, Option.bind_none, List.map_cons, List.map_nil, List.append_nil, List.nil_append, List.cons_append, List.replicate_succ, List.replicate_zero, true_and, and_true, if_true, if_false, ne_eq, not_true_eq_false, not_false_eq_true, Bool.not_true, Bool.not_false, forall_const, forall_false, implies_true, false_implies, true_implies, reduceCtorEq, List.set_set, mulOk_l, mulOk_r, Int.reduceEq, Int.reduceLT, Int.reduceLE, na_lit, na_neg, Nat.reduceLT, Nat.reduceLeDiff, and_self, List.length_cons, List.length_nil, Tgs.len, Nat.reduceAdd, Nat.reduceEqDiff, eq_self, decide_true, decide_false, List.getElem?_cons_zero, List.getElem?_cons_succ, Bool.and_false, Bool.false_and, Bool.or_true, Bool.or_false, Bool.true_or, Bool.false_or, and_assoc, fn_law, b_law]
  refine cp_mono (heap (by decide)) ?_
  rintro _ S0 ⟨r, rfl, b0⟩
  simp only [↓wp_int, ↓wp_str, ↓wp_bl, ↓wp_non, ↓wp_gint, ↓wp_gcls, ↓wp_var, ↓wp_tup, ↓wp_lst, ↓wp_bin, ↓wp_neg, ↓wp_cmp, ↓wp_isc, ↓wp_chain, ↓wp_and, ↓wp_or, ↓wp_and1, ↓wp_and2, ↓wp_or1, ↓wp_or2, ↓wp_not, ↓wp_ifx, ↓wp_idx, ↓wp_slc, ↓wp_rev, ↓wp_fld, ↓wp_call, ↓wp_callk, ↓wp_new, ↓wp_bi, ↓wp_lrg, ↓wp_isi, ↓wp_mt, ↓wp_comp, ↓wp_gal, ↓wp_evP0, ↓wp_evP1, ↓wp_nil, ↓wp_cons, ↓wp_nilB, ↓wp_consB, ↓wp_ts0, ↓wp_ts1, ↓wo_lst, ↓wo_comp, ↓wo_lrg, ↓wo_list, ↓wo_sorted, ↓wo_rev, ↓wo_add, ↓wo_mul, ↓wi_seq, ↓wi_rng, ↓wi_enum, ↓wt_nm, ↓wt_tup, ↓wt_nil, ↓wt_cons, ↓wt_sub, ↓wt_fld, ↓ws_nil, ↓ws_asg, ↓ws_aown, ↓ws_par, ↓ws_expr, ↓ws_ret, ↓ws_retn, ↓ws_pas, ↓ws_doc, ↓ws_brk, ↓ws_cnt, ↓ws_iteN, ↓ws_ite, ↓ws_for, ↓ws_whl, srK_rt, srK_nx, srK_ct, mtX_popS, eq_nils, ne_nils, pk_nil', pk_cons', Option.toList_some, Option.toList_none, bin_powI, at_ibI, slcT_to, slcL_to, List.take_succ_cons, List.take_zero, Int.reduceNeg, Int.zero_add, setX_m1, wp_setFld, setFS_new, fld_ins, wp_compF, wp_forF, wipe_nil, wipe_cons, restore_nil, restore_cons, wip_nil, wip_cons, wipS_emp, wipS_val, tok_none, rng1, rng2, rng3, rngL1, rngL2, tok_lst, tok_tup, forK_nx, forK_ct, forK_bk, forK_rt, Bool.and_self, Bool.and_true, Bool.true_and, Int.reduceToNat, Int.toNat_natCast, Int.reduceSub, Nat.reduceSub, nums_len, wp_ok, wp_bad, wp_bind, wp_ret, wp_some, wp_none, wp_ifS, wp_ifSm, wp_ifSb, Bool.false_eq_true, wp_if, br_true, br_false, br_dec, br_not, cbr_true, cbr_false, cbr_dec, cbr_not, wp_ofRC, wp_blk, cp_ok, endK_rt, endK_nx, orc_n, orc_s, look_zero, look_succ, has_zero, has_succ, set_zero, set_succ, getS_val, getS_ownT, getS_ownF, getS_owniT, getS_owniF, view_slt, view_ref, viewS_own, viewS_owni, viewO_lst, viewO_ins, view_int, view_bl, view_str, view_non, view_tup, view_lst, view_ins, go_nx, go_rt, go_bk, go_ct, bin_addI, bin_subI, bin_mulI, bin_fdivI, bin_modI, bin_addT, bin_addL, cmp_eqI, cmp_neI, cmp_ltI, cmp_leI, cmp_gtI, cmp_geI, idx_lst, idx_tup, at_0, at_1, at_2, at_3, at_4, at_5, at_m1, len_lst, len_tup, bi_int, bi_abs, bi_intb, bi_max2, bi_min2, bi_min3, bi_tupL, bi_tupT, bi_lstL, bi_lstT, seq_lst, seq_tup, lst_lst, bl_bl, int_int, isN_int, isN_bl, isN_non, isN_tup, isN_lst, isN_str, isN_ins, isB_int, isB_tup, isB_non, isB_str, isB_tt, isB_tf, isB_ft, isB_ff, lix_n, lix_t, lix_f, Int.cast_ofNat_Int, in_lst, in_tup, nin_lst, nin_tup, srt_lst, srt_tup, eq_tups, isT_int, isT_tup, isT_lst, isT_str, isT_bl, isT_non, isT_ins, isT_nil, putS_own, putR_lst, wp_putS, wp_putR, wp_setSub, setX_0, setX_1, setX_2, setX_3, wp_mtD, mtX_pop, mtX_app, Option.map_some, Option.map_none, Option.bind_some, Option.bind_none, List.map_cons, List.map_nil, List.append_nil, List.nil_append, List.cons_append, List.replicate_succ, List.replicate_zero, true_and, and_true, if_true, if_false, ne_eq, not_true_eq_false, not_false_eq_true, Bool.not_true, Bool.not_false, forall_const, forall_false, implies_true, false_implies, true_implies, reduceCtorEq, List.set_set, mulOk_l, mulOk_r, Int.reduceEq, Int.reduceLT, Int.reduceLE, na_lit, na_neg, Nat.reduceLT, Nat.reduceLeDiff, and_self, List.length_cons, List.length_nil, Tgs.len, Nat.reduceAdd, Nat.reduceEqDiff, eq_self, decide_true, decide_false, List.getElem?_cons_zero, List.getElem?_cons_succ, Bool.and_false, Bool.false_and, Bool.or_true, Bool.or_false, Bool.true_or, Bool.false_or, and_assoc, show big 8 = true by decide]
  refine wp_forN (fun i s => ∃ w2 w3 w4 w5 S, s = ⟨[.val (.lst (nums ns)), .val (.ref r), w2, w3, w4, w5], S⟩ ∧ Heap' S r) ⟨_, _, _, _, _, rfl, b0⟩ ?_ ?_
  · rintro i x s hx ⟨w2, w3, w4, w5, S, rfl, b⟩
    obtain ⟨hi, rfl⟩ := span_get hx
    refine ⟨rfl, ?_⟩
    simp only [↓wp_int, ↓wp_str, ↓wp_bl, ↓wp_non, ↓wp_gint, ↓wp_gcls, ↓wp_var, ↓wp_tup, ↓wp_lst, ↓wp_bin, ↓wp_neg, ↓wp_cmp, ↓wp_isc, ↓wp_chain, ↓wp_and, ↓wp_or, ↓wp_and1, ↓wp_and2, ↓wp_or1, ↓wp_or2, ↓wp_not, ↓wp_ifx, ↓wp_idx, ↓wp_slc, ↓wp_rev, ↓wp_fld, ↓wp_call, ↓wp_callk, ↓wp_new, ↓wp_bi, ↓wp_lrg, ↓wp_isi, ↓wp_mt, ↓wp_comp, ↓wp_gal, ↓wp_evP0, ↓wp_evP1, ↓wp_nil, ↓wp_cons, ↓wp_nilB, ↓wp_consB, ↓wp_ts0, ↓wp_ts1, ↓wo_lst, ↓wo_comp, ↓wo_lrg, ↓wo_list, ↓wo_sorted, ↓wo_rev, ↓wo_add, ↓wo_mul, ↓wi_seq, ↓wi_rng, ↓wi_enum, ↓wt_nm, ↓wt_tup, ↓wt_nil, ↓wt_cons, ↓wt_sub, ↓wt_fld, ↓ws_nil, ↓ws_asg, ↓ws_aown, ↓ws_par, ↓ws_expr, ↓ws_ret, ↓ws_retn, ↓ws_pas, ↓ws_doc, ↓ws_brk, ↓ws_cnt, ↓ws_iteN, ↓ws_ite, ↓ws_for, ↓ws_whl, srK_rt, srK_nx, srK_ct, mtX_popS, eq_nils, ne_nils, pk_nil', pk_cons', Option.toList_some, Option.toList_none, bin_powI, at_ibI, slcT_to, slcL_to, List.take_succ_cons, List.take_zero, Int.reduceNeg, Int.zero_add, setX_m1, wp_setFld, setFS_new, fld_ins, wp_compF, wp_forF, wipe_nil, wipe_cons, restore_nil, restore_cons, wip_nil, wip_cons, wipS_emp, wipS_val, tok_none, rng1, rng2, rng3, rngL1, rngL2, tok_lst, tok_tup, forK_nx, forK_ct, forK_bk, forK_rt, Bool.and_self, Bool.and_true, Bool.true_and, Int.reduceToNat, Int.toNat_natCast, Int.reduceSub, Nat.reduceSub, nums_len, wp_ok, wp_bad, wp_bind, wp_ret, wp_some, wp_none, wp_ifS, wp_ifSm, wp_ifSb, Bool.false_eq_true, wp_if, br_true, br_false, br_dec, br_not, cbr_true, cbr_false, cbr_dec, cbr_not, wp_ofRC, wp_blk, cp_ok, endK_rt, endK_nx, orc_n, orc_s, look_zero, look_succ, has_zero, has_succ, set_zero, set_succ, getS_val, getS_ownT, getS_ownF, getS_owniT, getS_owniF, view_slt, view_ref, viewS_own, viewS_owni, viewO_lst, viewO_ins, view_int, view_bl, view_str, view_non, view_tup, view_lst, view_ins, go_nx, go_rt, go_bk, go_ct, bin_addI, bin_subI, bin_mulI, bin_fdivI, bin_modI, bin_addT, bin_addL, cmp_eqI, cmp_neI, cmp_ltI, cmp_leI, cmp_gtI, cmp_geI, idx_lst, idx_tup, at_0, at_1, at_2, at_3, at_4, at_5, at_m1, len_lst, len_tup, bi_int, bi_abs, bi_intb, bi_max2, bi_min2, bi_min3, bi_tupL, bi_tupT, bi_lstL, bi_lstT, seq_lst, seq_tup, lst_lst, bl_bl, int_int, isN_int, isN_bl, isN_non, isN_tup, isN_lst, isN_str, isN_ins, isB_int, isB_tup, isB_non, isB_str, isB_tt, isB_tf, isB_ft, isB_ff, lix_n, lix_t, lix_f, Int.cast_ofNat_Int, in_lst, in_tup, nin_lst, nin_tup, srt_lst, srt_tup, eq_tups, isT_int, isT_tup, isT_lst, isT_str, isT_bl, isT_non, isT_ins, isT_nil, putS_own, putR_lst, wp_putS, wp_putR, wp_setSub, setX_0, setX_1, setX_2, setX_3, wp_mtD, mtX_pop, mtX_app, Option.map_some, Option.map_none, Option.bind_some, Option.bind_none, List.map_cons, List.map_nil, List.append_nil, List.nil_append, List.cons_append, List.replicate_succ, List.replicate_zero, true_and, and_true, if_true, if_false, ne_eq, not_true_eq_false, not_false_eq_true, Bool.not_true, Bool.not_false, forall_const, forall_false, implies_true, false_implies, true_implies, reduceCtorEq, List.set_set, mulOk_l, mulOk_r, Int.reduceEq, Int.reduceLT, Int.reduceLE, na_lit, na_neg, Nat.reduceLT, Nat.reduceLeDiff, and_self, List.length_cons, List.length_nil, Tgs.len, Nat.reduceAdd, Nat.reduceEqDiff, eq_self, decide_true, decide_false, List.getElem?_cons_zero, List.getElem?_cons_succ, Bool.and_false, Bool.false_and, Bool.or_true, Bool.or_false, Bool.true_or, Bool.false_or, and_assoc]
    refine cp_mono (draw b (by omega) (by omega) (by decide)) ?_
    rintro _ S1 ⟨v, rfl, v0, v1, b1⟩
    simp only [↓wp_int, ↓wp_str, ↓wp_bl, ↓wp_non, ↓wp_gint, ↓wp_gcls, ↓wp_var, ↓wp_tup, ↓wp_lst, ↓wp_bin, ↓wp_neg, ↓wp_cmp, ↓wp_isc, ↓wp_chain, ↓wp_and, ↓wp_or, ↓wp_and1, ↓wp_and2, ↓wp_or1, ↓wp_or2, ↓wp_not, ↓wp_ifx, ↓wp_idx, ↓wp_slc, ↓wp_rev, ↓wp_fld, ↓wp_call, ↓wp_callk, ↓wp_new, ↓wp_bi, ↓wp_lrg, ↓wp_isi, ↓wp_mt, ↓wp_comp, ↓wp_gal, ↓wp_evP0, ↓wp_evP1, ↓wp_nil, ↓wp_cons, ↓wp_nilB, ↓wp_consB, ↓wp_ts0, ↓wp_ts1, ↓wo_lst, ↓wo_comp, ↓wo_lrg, ↓wo_list, ↓wo_sorted, ↓wo_rev, ↓wo_add, ↓wo_mul, ↓wi_seq, ↓wi_rng, ↓wi_enum, ↓wt_nm, ↓wt_tup, ↓wt_nil, ↓wt_cons, ↓wt_sub, ↓wt_fld, ↓ws_nil, ↓ws_asg, ↓ws_aown, ↓ws_par, ↓ws_expr, ↓ws_ret, ↓ws_retn, ↓ws_pas, ↓ws_doc, ↓ws_brk, ↓ws_cnt, ↓ws_iteN, ↓ws_ite, ↓ws_for, ↓ws_whl, srK_rt, srK_nx, srK_ct, mtX_popS, eq_nils, ne_nils, pk_nil', pk_cons', Option.toList_some, Option.toList_none, bin_powI, at_ibI, slcT_to, slcL_to, List.take_succ_cons, List.take_zero, Int.reduceNeg, Int.zero_add, setX_m1, wp_setFld, setFS_new, fld_ins, wp_compF, wp_forF, wipe_nil, wipe_cons, restore_nil, restore_cons, wip_nil, wip_cons, wipS_emp, wipS_val, tok_none, rng1, rng2, rng3, rngL1, rngL2, tok_lst, tok_tup, forK_nx, forK_ct, forK_bk, forK_rt, Bool.and_self, Bool.and_true, Bool.true_and, Int.reduceToNat, Int.toNat_natCast, Int.reduceSub, Nat.reduceSub, nums_len, wp_ok, wp_bad, wp_bind, wp_ret, wp_some, wp_none, wp_ifS, wp_ifSm, wp_ifSb, Bool.false_eq_true, wp_if, br_true, br_false, br_dec, br_not, cbr_true, cbr_false, cbr_dec, cbr_not, wp_ofRC, wp_blk, cp_ok, endK_rt, endK_nx, orc_n, orc_s, look_zero, look_succ, has_zero, has_succ, set_zero, set_succ, getS_val, getS_ownT, getS_ownF, getS_owniT, getS_owniF, view_slt, view_ref, viewS_own, viewS_owni, viewO_lst, viewO_ins, view_int, view_bl, view_str, view_non, view_tup, view_lst, view_ins, go_nx, go_rt, go_bk, go_ct, bin_addI, bin_subI, bin_mulI, bin_fdivI, bin_modI, bin_addT, bin_addL, cmp_eqI, cmp_neI, cmp_ltI, cmp_leI, cmp_gtI, cmp_geI, idx_lst, idx_tup, at_0, at_1, at_2, at_3, at_4, at_5, at_m1, len_lst, len_tup, bi_int, bi_abs, bi_intb, bi_max2, bi_min2, bi_min3, bi_tupL, bi_tupT, bi_lstL, bi_lstT, seq_lst, seq_tup, lst_lst, bl_bl, int_int, isN_int, isN_bl, isN_non, isN_tup, isN_lst, isN_str, isN_ins, isB_int, isB_tup, isB_non, isB_str, isB_tt, isB_tf, isB_ft, isB_ff, lix_n, lix_t, lix_f, Int.cast_ofNat_Int, in_lst, in_tup, nin_lst, nin_tup, srt_lst, srt_tup, eq_tups, isT_int, isT_tup, isT_lst, isT_str, isT_bl, isT_non, isT_ins, isT_nil, putS_own, putR_lst, wp_putS, wp_putR, wp_setSub, setX_0, setX_1, setX_2, setX_3, wp_mtD, mtX_pop, mtX_app, Option.map_some, Option.map_none, Option.bind_some, Option.bind_none, List.map_cons, List.map_nil, List.append_nil, List.nil_append, List.cons_append, List.replicate_succ, List.replicate_zero, true_and, and_true, if_true, if_false, ne_eq, not_true_eq_false, not_false_eq_true, Bool.not_true, Bool.not_false, forall_const, forall_false, implies_true, false_implies, true_implies, reduceCtorEq, List.set_set, mulOk_l, mulOk_r, Int.reduceEq, Int.reduceLT, Int.reduceLE, na_lit, na_neg, Nat.reduceLT, Nat.reduceLeDiff, and_self, List.length_cons, List.length_nil, Tgs.len, Nat.reduceAdd, Nat.reduceEqDiff, eq_self, decide_true, decide_false, List.getElem?_cons_zero, List.getElem?_cons_succ, Bool.and_false, Bool.false_and, Bool.or_true, Bool.or_false, Bool.true_or, Bool.false_or, and_assoc]
    refine cp_mono (draw b1 (by omega) (by omega) (by decide)) ?_
    rintro _ S2 ⟨u, rfl, u0, u1, b2⟩
    simp only [↓wp_int, ↓wp_str, ↓wp_bl, ↓wp_non, ↓wp_gint, ↓wp_gcls, ↓wp_var, ↓wp_tup, ↓wp_lst, ↓wp_bin, ↓wp_neg, ↓wp_cmp, ↓wp_isc, ↓wp_chain, ↓wp_and, ↓wp_or, ↓wp_and1, ↓wp_and2, ↓wp_or1, ↓wp_or2, ↓wp_not, ↓wp_ifx, ↓wp_idx, ↓wp_slc, ↓wp_rev, ↓wp_fld, ↓wp_call, ↓wp_callk, ↓wp_new, ↓wp_bi, ↓wp_lrg, ↓wp_isi, ↓wp_mt, ↓wp_comp, ↓wp_gal, ↓wp_evP0, ↓wp_evP1, ↓wp_nil, ↓wp_cons, ↓wp_nilB, ↓wp_consB, ↓wp_ts0, ↓wp_ts1, ↓wo_lst, ↓wo_comp, ↓wo_lrg, ↓wo_list, ↓wo_sorted, ↓wo_rev, ↓wo_add, ↓wo_mul, ↓wi_seq, ↓wi_rng, ↓wi_enum, ↓wt_nm, ↓wt_tup, ↓wt_nil, ↓wt_cons, ↓wt_sub, ↓wt_fld, ↓ws_nil, ↓ws_asg, ↓ws_aown, ↓ws_par, ↓ws_expr, ↓ws_ret, ↓ws_retn, ↓ws_pas, ↓ws_doc, ↓ws_brk, ↓ws_cnt, ↓ws_iteN, ↓ws_ite, ↓ws_for, ↓ws_whl, srK_rt, srK_nx, srK_ct, mtX_popS, eq_nils, ne_nils, pk_nil', pk_cons', Option.toList_some, Option.toList_none, bin_powI, at_ibI, slcT_to, slcL_to, List.take_succ_cons, List.take_zero, Int.reduceNeg, Int.zero_add, setX_m1, wp_setFld, setFS_new, fld_ins, wp_compF, wp_forF, wipe_nil, wipe_cons, restore_nil, restore_cons, wip_nil, wip_cons, wipS_emp, wipS_val, tok_none, rng1, rng2, rng3, rngL1, rngL2, tok_lst, tok_tup, forK_nx, forK_ct, forK_bk, forK_rt, Bool.and_self, Bool.and_true, Bool.true_and, Int.reduceToNat, Int.toNat_natCast, Int.reduceSub, Nat.reduceSub, nums_len, wp_ok, wp_bad, wp_bind, wp_ret, wp_some, wp_none, wp_ifS, wp_ifSm, wp_ifSb, Bool.false_eq_true, wp_if, br_true, br_false, br_dec, br_not, cbr_true, cbr_false, cbr_dec, cbr_not, wp_ofRC, wp_blk, cp_ok, endK_rt, endK_nx, orc_n, orc_s, look_zero, look_succ, has_zero, has_succ, set_zero, set_succ, getS_val, getS_ownT, getS_ownF, getS_owniT, getS_owniF, view_slt, view_ref, viewS_own, viewS_owni, viewO_lst, viewO_ins, view_int, view_bl, view_str, view_non, view_tup, view_lst, view_ins, go_nx, go_rt, go_bk, go_ct, bin_addI, bin_subI, bin_mulI, bin_fdivI, bin_modI, bin_addT, bin_addL, cmp_eqI, cmp_neI, cmp_ltI, cmp_leI, cmp_gtI, cmp_geI, idx_lst, idx_tup, at_0, at_1, at_2, at_3, at_4, at_5, at_m1, len_lst, len_tup, bi_int, bi_abs, bi_intb, bi_max2, bi_min2, bi_min3, bi_tupL, bi_tupT, bi_lstL, bi_lstT, seq_lst, seq_tup, lst_lst, bl_bl, int_int, isN_int, isN_bl, isN_non, isN_tup, isN_lst, isN_str, isN_ins, isB_int, isB_tup, isB_non, isB_str, isB_tt, isB_tf, isB_ft, isB_ff, lix_n, lix_t, lix_f, Int.cast_ofNat_Int, in_lst, in_tup, nin_lst, nin_tup, srt_lst, srt_tup, eq_tups, isT_int, isT_tup, isT_lst, isT_str, isT_bl, isT_non, isT_ins, isT_nil, putS_own, putR_lst, wp_putS, wp_putR, wp_setSub, setX_0, setX_1, setX_2, setX_3, wp_mtD, mtX_pop, mtX_app, Option.map_some, Option.map_none, Option.bind_some, Option.bind_none, List.map_cons, List.map_nil, List.append_nil, List.nil_append, List.cons_append, List.replicate_succ, List.replicate_zero, true_and, and_true, if_true, if_false, ne_eq, not_true_eq_false, not_false_eq_true, Bool.not_true, Bool.not_false, forall_const, forall_false, implies_true, false_implies, true_implies, reduceCtorEq, List.set_set, mulOk_l, mulOk_r, Int.reduceEq, Int.reduceLT, Int.reduceLE, na_lit, na_neg, Nat.reduceLT, Nat.reduceLeDiff, and_self, List.length_cons, List.length_nil, Tgs.len, Nat.reduceAdd, Nat.reduceEqDiff, eq_self, decide_true, decide_false, List.getElem?_cons_zero, List.getElem?_cons_succ, Bool.and_false, Bool.false_and, Bool.or_true, Bool.or_false, Bool.true_or, Bool.false_or, and_assoc]
    refine cp_mono (pick b2 (by simp) (by simp) (by decide)) ?_
    rintro x S3 ⟨hx, b3⟩
    obtain ⟨f, rfl, f0⟩ : ∃ f : Int, x = .int f ∧ 0 ≤ f := by
      simp only [List.mem_cons, List.not_mem_nil, or_false] at hx
      rcases hx with rfl | rfl | rfl | rfl <;> exact ⟨_, rfl, by omega⟩
    simp only [↓wp_int, ↓wp_str, ↓wp_bl, ↓wp_non, ↓wp_gint, ↓wp_gcls, ↓wp_var, ↓wp_tup, ↓wp_lst, ↓wp_bin, ↓wp_neg, ↓wp_cmp, ↓wp_isc, ↓wp_chain, ↓wp_and, ↓wp_or, ↓wp_and1, ↓wp_and2, ↓wp_or1, ↓wp_or2, ↓wp_not, ↓wp_ifx, ↓wp_idx, ↓wp_slc, ↓wp_rev, ↓wp_fld, ↓wp_call, ↓wp_callk, ↓wp_new, ↓wp_bi, ↓wp_lrg, ↓wp_isi, ↓wp_mt, ↓wp_comp, ↓wp_gal, ↓wp_evP0, ↓wp_evP1, ↓wp_nil, ↓wp_cons, ↓wp_nilB, ↓wp_consB, ↓wp_ts0, ↓wp_ts1, ↓wo_lst, ↓wo_comp, ↓wo_lrg, ↓wo_list, ↓wo_sorted, ↓wo_rev, ↓wo_add, ↓wo_mul, ↓wi_seq, ↓wi_rng, ↓wi_enum, ↓wt_nm, ↓wt_tup, ↓wt_nil, ↓wt_cons, ↓wt_sub, ↓wt_fld, ↓ws_nil, ↓ws_asg, ↓ws_aown, ↓ws_par, ↓ws_expr, ↓ws_ret, ↓ws_retn, ↓ws_pas, ↓ws_doc, ↓ws_brk, ↓ws_cnt, ↓ws_iteN, ↓ws_ite, ↓ws_for, ↓ws_whl, srK_rt, srK_nx, srK_ct, mtX_popS, eq_nils, ne_nils, pk_nil', pk_cons', Option.toList_some, Option.toList_none, bin_powI, at_ibI, slcT_to, slcL_to, List.take_succ_cons, List.take_zero, Int.reduceNeg, Int.zero_add, setX_m1, wp_setFld, setFS_new, fld_ins, wp_compF, wp_forF, wipe_nil, wipe_cons, restore_nil, restore_cons, wip_nil, wip_cons, wipS_emp, wipS_val, tok_none, rng1, rng2, rng3, rngL1, rngL2, tok_lst, tok_tup, forK_nx, forK_ct, forK_bk, forK_rt, Bool.and_self, Bool.and_true, Bool.true_and, Int.reduceToNat, Int.toNat_natCast, Int.reduceSub, Nat.reduceSub, nums_len, wp_ok, wp_bad, wp_bind, wp_ret, wp_some, wp_none, wp_ifS, wp_ifSm, wp_ifSb, Bool.false_eq_true, wp_if, br_true, br_false, br_dec, br_not, cbr_true, cbr_false, cbr_dec, cbr_not, wp_ofRC, wp_blk, cp_ok, endK_rt, endK_nx, orc_n, orc_s, look_zero, look_succ, has_zero, has_succ, set_zero, set_succ, getS_val, getS_ownT, getS_ownF, getS_owniT, getS_owniF, view_slt, view_ref, viewS_own, viewS_owni, viewO_lst, viewO_ins, view_int, view_bl, view_str, view_non, view_tup, view_lst, view_ins, go_nx, go_rt, go_bk, go_ct, bin_addI, bin_subI, bin_mulI, bin_fdivI, bin_modI, bin_addT, bin_addL, cmp_eqI, cmp_neI, cmp_ltI, cmp_leI, cmp_gtI, cmp_geI, idx_lst, idx_tup, at_0, at_1, at_2, at_3, at_4, at_5, at_m1, len_lst, len_tup, bi_int, bi_abs, bi_intb, bi_max2, bi_min2, bi_min3, bi_tupL, bi_tupT, bi_lstL, bi_lstT, seq_lst, seq_tup, lst_lst, bl_bl, int_int, isN_int, isN_bl, isN_non, isN_tup, isN_lst, isN_str, isN_ins, isB_int, isB_tup, isB_non, isB_str, isB_tt, isB_tf, isB_ft, isB_ff, lix_n, lix_t, lix_f, Int.cast_ofNat_Int, in_lst, in_tup, nin_lst, nin_tup, srt_lst, srt_tup, eq_tups, isT_int, isT_tup, isT_lst, isT_str, isT_bl, isT_non, isT_ins, isT_nil, putS_own, putR_lst, wp_putS, wp_putR, wp_setSub, setX_0, setX_1, setX_2, setX_3, wp_mtD, mtX_pop, mtX_app, Option.map_some, Option.map_none, Option.bind_some, Option.bind_none, List.map_cons, List.map_nil, List.append_nil, List.nil_append, List.cons_append, List.replicate_succ, List.replicate_zero, true_and, and_true, if_true, if_false, ne_eq, not_true_eq_false, not_false_eq_true, Bool.not_true, Bool.not_false, forall_const, forall_false, implies_true, false_implies, true_implies, reduceCtorEq, List.set_set, mulOk_l, mulOk_r, Int.reduceEq, Int.reduceLT, Int.reduceLE, na_lit, na_neg, Nat.reduceLT, Nat.reduceLeDiff, and_self, List.length_cons, List.length_nil, Tgs.len, Nat.reduceAdd, Nat.reduceEqDiff, eq_self, decide_true, decide_false, List.getElem?_cons_zero, List.getElem?_cons_succ, Bool.and_false, Bool.false_and, Bool.or_true, Bool.or_false, Bool.true_or, Bool.false_or, and_assoc]
    refine cp_mono (numbers b3 (by omega) (by omega) (by omega) (by omega) (by decide)) ?_
    rintro _ S4 ⟨d, a, b', c, s, rfl, hN, s0, s1, b4⟩
    simp only [↓wp_int, ↓wp_str, ↓wp_bl, ↓wp_non, ↓wp_gint, ↓wp_gcls, ↓wp_var, ↓wp_tup, ↓wp_lst, ↓wp_bin, ↓wp_neg, ↓wp_cmp, ↓wp_isc, ↓wp_chain, ↓wp_and, ↓wp_or, ↓wp_and1, ↓wp_and2, ↓wp_or1, ↓wp_or2, ↓wp_not, ↓wp_ifx, ↓wp_idx, ↓wp_slc, ↓wp_rev, ↓wp_fld, ↓wp_call, ↓wp_callk, ↓wp_new, ↓wp_bi, ↓wp_lrg, ↓wp_isi, ↓wp_mt, ↓wp_comp, ↓wp_gal, ↓wp_evP0, ↓wp_evP1, ↓wp_nil, ↓wp_cons, ↓wp_nilB, ↓wp_consB, ↓wp_ts0, ↓wp_ts1, ↓wo_lst, ↓wo_comp, ↓wo_lrg, ↓wo_list, ↓wo_sorted, ↓wo_rev, ↓wo_add, ↓wo_mul, ↓wi_seq, ↓wi_rng, ↓wi_enum, ↓wt_nm, ↓wt_tup, ↓wt_nil, ↓wt_cons, ↓wt_sub, ↓wt_fld, ↓ws_nil, ↓ws_asg, ↓ws_aown, ↓ws_par, ↓ws_expr, ↓ws_ret, ↓ws_retn, ↓ws_pas, ↓ws_doc, ↓ws_brk, ↓ws_cnt, ↓ws_iteN, ↓ws_ite, ↓ws_for, ↓ws_whl, srK_rt, srK_nx, srK_ct, mtX_popS, eq_nils, ne_nils, pk_nil', pk_cons', Option.toList_some, Option.toList_none, bin_powI, at_ibI, slcT_to, slcL_to, List.take_succ_cons, List.take_zero, Int.reduceNeg, Int.zero_add, setX_m1, wp_setFld, setFS_new, fld_ins, wp_compF, wp_forF, wipe_nil, wipe_cons, restore_nil, restore_cons, wip_nil, wip_cons, wipS_emp, wipS_val, tok_none, rng1, rng2, rng3, rngL1, rngL2, tok_lst, tok_tup, forK_nx, forK_ct, forK_bk, forK_rt, Bool.and_self, Bool.and_true, Bool.true_and, Int.reduceToNat, Int.toNat_natCast, Int.reduceSub, Nat.reduceSub, nums_len, wp_ok, wp_bad, wp_bind, wp_ret, wp_some, wp_none, wp_ifS, wp_ifSm, wp_ifSb, Bool.false_eq_true, wp_if, br_true, br_false, br_dec, br_not, cbr_true, cbr_false, cbr_dec, cbr_not, wp_ofRC, wp_blk, cp_ok, endK_rt, endK_nx, orc_n, orc_s, look_zero, look_succ, has_zero, has_succ, set_zero, set_succ, getS_val, getS_ownT, getS_ownF, getS_owniT, getS_owniF, view_slt, view_ref, viewS_own, viewS_owni, viewO_lst, viewO_ins, view_int, view_bl, view_str, view_non, view_tup, view_lst, view_ins, go_nx, go_rt, go_bk, go_ct, bin_addI, bin_subI, bin_mulI, bin_fdivI, bin_modI, bin_addT, bin_addL, cmp_eqI, cmp_neI, cmp_ltI, cmp_leI, cmp_gtI, cmp_geI, idx_lst, idx_tup, at_0, at_1, at_2, at_3, at_4, at_5, at_m1, len_lst, len_tup, bi_int, bi_abs, bi_intb, bi_max2, bi_min2, bi_min3, bi_tupL, bi_tupT, bi_lstL, bi_lstT, seq_lst, seq_tup, lst_lst, bl_bl, int_int, isN_int, isN_bl, isN_non, isN_tup, isN_lst, isN_str, isN_ins, isB_int, isB_tup, isB_non, isB_str, isB_tt, isB_tf, isB_ft, isB_ff, lix_n, lix_t, lix_f, Int.cast_ofNat_Int, in_lst, in_tup, nin_lst, nin_tup, srt_lst, srt_tup, eq_tups, isT_int, isT_tup, isT_lst, isT_str, isT_bl, isT_non, isT_ins, isT_nil, putS_own, putR_lst, wp_putS, wp_putR, wp_setSub, setX_0, setX_1, setX_2, setX_3, wp_mtD, mtX_pop, mtX_app, Option.map_some, Option.map_none, Option.bind_some, Option.bind_none, List.map_cons, List.map_nil, List.append_nil, List.nil_append, List.cons_append, List.replicate_succ, List.replicate_zero, true_and, and_true, if_true, if_false, ne_eq, not_true_eq_false, not_false_eq_true, Bool.not_true, Bool.not_false, forall_const, forall_false, implies_true, false_implies, true_implies, reduceCtorEq, List.set_set, mulOk_l, mulOk_r, Int.reduceEq, Int.reduceLT, Int.reduceLE, na_lit, na_neg, Nat.reduceLT, Nat.reduceLeDiff, and_self, List.length_cons, List.length_nil, Tgs.len, Nat.reduceAdd, Nat.reduceEqDiff, eq_self, decide_true, decide_false, List.getElem?_cons_zero, List.getElem?_cons_succ, Bool.and_false, Bool.false_and, Bool.or_true, Bool.or_false, Bool.true_or, Bool.false_or, and_assoc, right (q := 39) hN (by decide)]
    exact ⟨_, _, _, _, _, rfl, b4⟩
  · rintro s ⟨w2, w3, w4, w5, S, rfl, b⟩
    refine ⟨rfl, ?_⟩
    simp only [↓wp_int, ↓wp_str, ↓wp_bl, ↓wp_non, ↓wp_gint, ↓wp_gcls, ↓wp_var, ↓wp_tup, ↓wp_lst, ↓wp_bin, ↓wp_neg, ↓wp_cmp, ↓wp_isc, ↓wp_chain, ↓wp_and, ↓wp_or, ↓wp_and1, ↓wp_and2, ↓wp_or1, ↓wp_or2, ↓wp_not, ↓wp_ifx, ↓wp_idx, ↓wp_slc, ↓wp_rev, ↓wp_fld, ↓wp_call, ↓wp_callk, ↓wp_new, ↓wp_bi, ↓wp_lrg, ↓wp_isi, ↓wp_mt, ↓wp_comp, ↓wp_gal, ↓wp_evP0, ↓wp_evP1, ↓wp_nil, ↓wp_cons, ↓wp_nilB, ↓wp_consB, ↓wp_ts0, ↓wp_ts1, ↓wo_lst, ↓wo_comp, ↓wo_lrg, ↓wo_list, ↓wo_sorted, ↓wo_rev, ↓wo_add, ↓wo_mul, ↓wi_seq, ↓wi_rng, ↓wi_enum, ↓wt_nm, ↓wt_tup, ↓wt_nil, ↓wt_cons, ↓wt_sub, ↓wt_fld, ↓ws_nil, ↓ws_asg, ↓ws_aown, ↓ws_par, ↓ws_expr, ↓ws_ret, ↓ws_retn, ↓ws_pas, ↓ws_doc, ↓ws_brk, ↓ws_cnt, ↓ws_iteN, ↓ws_ite, ↓ws_for, ↓ws_whl, srK_rt, srK_nx, srK_ct, mtX_popS, eq_nils, ne_nils, pk_nil', pk_cons', Option.toList_some, Option.toList_none, bin_powI, at_ibI, slcT_to, slcL_to, List.take_succ_cons, List.take_zero, Int.reduceNeg, Int.zero_add, setX_m1, wp_setFld, setFS_new, fld_ins, wp_compF, wp_forF, wipe_nil, wipe_cons, restore_nil, restore_cons, wip_nil, wip_cons, wipS_emp, wipS_val, tok_none, rng1, rng2, rng3, rngL1, rngL2, tok_lst, tok_tup, forK_nx, forK_ct, forK_bk, forK_rt, Bool.and_self, Bool.and_true, Bool.true_and, Int.reduceToNat, Int.toNat_natCast, Int.reduceSub, Nat.reduceSub, nums_len, wp_ok, wp_bad, wp_bind, wp_ret, wp_some, wp_none, wp_ifS, wp_ifSm, wp_ifSb, Bool.false_eq_true, wp_if, br_true, br_false, br_dec, br_not, cbr_true, cbr_false, cbr_dec, cbr_not, wp_ofRC, wp_blk, cp_ok, endK_rt, endK_nx, orc_n, orc_s, look_zero, look_succ, has_zero, has_succ, set_zero, set_succ, getS_val, getS_ownT, getS_ownF, getS_owniT, getS_owniF, view_slt, view_ref, viewS_own, viewS_owni, viewO_lst, viewO_ins, view_int, view_bl, view_str, view_non, view_tup, view_lst, view_ins, go_nx, go_rt, go_bk, go_ct, bin_addI, bin_subI, bin_mulI, bin_fdivI, bin_modI, bin_addT, bin_addL, cmp_eqI, cmp_neI, cmp_ltI, cmp_leI, cmp_gtI, cmp_geI, idx_lst, idx_tup, at_0, at_1, at_2, at_3, at_4, at_5, at_m1, len_lst, len_tup, bi_int, bi_abs, bi_intb, bi_max2, bi_min2, bi_min3, bi_tupL, bi_tupT, bi_lstL, bi_lstT, seq_lst, seq_tup, lst_lst, bl_bl, int_int, isN_int, isN_bl, isN_non, isN_tup, isN_lst, isN_str, isN_ins, isB_int, isB_tup, isB_non, isB_str, isB_tt, isB_tf, isB_ft, isB_ff, lix_n, lix_t, lix_f, Int.cast_ofNat_Int, in_lst, in_tup, nin_lst, nin_tup, srt_lst, srt_tup, eq_tups, isT_int, isT_tup, isT_lst, isT_str, isT_bl, isT_non, isT_ins, isT_nil, putS_own, putR_lst, wp_putS, wp_putR, wp_setSub, setX_0, setX_1, setX_2, setX_3, wp_mtD, mtX_pop, mtX_app, Option.map_some, Option.map_none, Option.bind_some, Option.bind_none, List.map_cons, List.map_nil, List.append_nil, List.nil_append, List.cons_append, List.replicate_succ, List.replicate_zero, true_and, and_true, if_true, if_false, ne_eq, not_true_eq_false, not_false_eq_true, Bool.not_true, Bool.not_false, forall_const, forall_false, implies_true, false_implies, true_implies, reduceCtorEq, List.set_set, mulOk_l, mulOk_r, Int.reduceEq, Int.reduceLT, Int.reduceLE, na_lit, na_neg, Nat.reduceLT, Nat.reduceLeDiff, and_self, List.length_cons, List.length_nil, Tgs.len, Nat.reduceAdd, Nat.reduceEqDiff, eq_self, decide_true, decide_false, List.getElem?_cons_zero, List.getElem?_cons_succ, Bool.and_false, Bool.false_and, Bool.or_true, Bool.or_false, Bool.true_or, Bool.false_or, and_assoc, show big 3 = true by decide]
    refine wp_forN (fun i s => ∃ w2 w3 w4 w5 S, s = ⟨[.val (.lst (nums ns)), .val (.ref r), w2, w3, w4, w5], S⟩ ∧ Heap' S r) ⟨_, _, _, _, _, rfl, b⟩ ?_ ?_
    · rintro i x s hx ⟨w2, w3, w4, w5, S, rfl, b⟩
      obtain ⟨hi, rfl⟩ := span_get hx
      refine ⟨rfl, ?_⟩
      simp only [↓wp_int, ↓wp_str, ↓wp_bl, ↓wp_non, ↓wp_gint, ↓wp_gcls, ↓wp_var, ↓wp_tup, ↓wp_lst, ↓wp_bin, ↓wp_neg, ↓wp_cmp, ↓wp_isc, ↓wp_chain, ↓wp_and, ↓wp_or, ↓wp_and1, ↓wp_and2, ↓wp_or1, ↓wp_or2, ↓wp_not, ↓wp_ifx, ↓wp_idx, ↓wp_slc, ↓wp_rev, ↓wp_fld, ↓wp_call, ↓wp_callk, ↓wp_new, ↓wp_bi, ↓wp_lrg, ↓wp_isi, ↓wp_mt, ↓wp_comp, ↓wp_gal, ↓wp_evP0, ↓wp_evP1, ↓wp_nil, ↓wp_cons, ↓wp_nilB, ↓wp_consB, ↓wp_ts0, ↓wp_ts1, ↓wo_lst, ↓wo_comp, ↓wo_lrg, ↓wo_list, ↓wo_sorted, ↓wo_rev, ↓wo_add, ↓wo_mul, ↓wi_seq, ↓wi_rng, ↓wi_enum, ↓wt_nm, ↓wt_tup, ↓wt_nil, ↓wt_cons, ↓wt_sub, ↓wt_fld, ↓ws_nil, ↓ws_asg, ↓ws_aown, ↓ws_par, ↓ws_expr, ↓ws_ret, ↓ws_retn, ↓ws_pas, ↓ws_doc, ↓ws_brk, ↓ws_cnt, ↓ws_iteN, ↓ws_ite, ↓ws_for, ↓ws_whl, srK_rt, srK_nx, srK_ct, mtX_popS, eq_nils, ne_nils, pk_nil', pk_cons', Option.toList_some, Option.toList_none, bin_powI, at_ibI, slcT_to, slcL_to, List.take_succ_cons, List.take_zero, Int.reduceNeg, Int.zero_add, setX_m1, wp_setFld, setFS_new, fld_ins, wp_compF, wp_forF, wipe_nil, wipe_cons, restore_nil, restore_cons, wip_nil, wip_cons, wipS_emp, wipS_val, tok_none, rng1, rng2, rng3, rngL1, rngL2, tok_lst, tok_tup, forK_nx, forK_ct, forK_bk, forK_rt, Bool.and_self, Bool.and_true, Bool.true_and, Int.reduceToNat, Int.toNat_natCast, Int.reduceSub, Nat.reduceSub, nums_len, wp_ok, wp_bad, wp_bind, wp_ret, wp_some, wp_none, wp_ifS, wp_ifSm, wp_ifSb, Bool.false_eq_true, wp_if, br_true, br_false, br_dec, br_not, cbr_true, cbr_false, cbr_dec, cbr_not, wp_ofRC, wp_blk, cp_ok, endK_rt, endK_nx, orc_n, orc_s, look_zero, look_succ, has_zero, has_succ, set_zero, set_succ, getS_val, getS_ownT, getS_ownF, getS_owniT, getS_owniF, view_slt, view_ref, viewS_own, viewS_owni, viewO_lst, viewO_ins, view_int, view_bl, view_str, view_non, view_tup, view_lst, view_ins, go_nx, go_rt, go_bk, go_ct, bin_addI, bin_subI, bin_mulI, bin_fdivI, bin_modI, bin_addT, bin_addL, cmp_eqI, cmp_neI, cmp_ltI, cmp_leI, cmp_gtI, cmp_geI, idx_lst, idx_tup, at_0, at_1, at_2, at_3, at_4, at_5, at_m1, len_lst, len_tup, bi_int, bi_abs, bi_intb, bi_max2, bi_min2, bi_min3, bi_tupL, bi_tupT, bi_lstL, bi_lstT, seq_lst, seq_tup, lst_lst, bl_bl, int_int, isN_int, isN_bl, isN_non, isN_tup, isN_lst, isN_str, isN_ins, isB_int, isB_tup, isB_non, isB_str, isB_tt, isB_tf, isB_ft, isB_ff, lix_n, lix_t, lix_f, Int.cast_ofNat_Int, in_lst, in_tup, nin_lst, nin_tup, srt_lst, srt_tup, eq_tups, isT_int, isT_tup, isT_lst, isT_str, isT_bl, isT_non, isT_ins, isT_nil, putS_own, putR_lst, wp_putS, wp_putR, wp_setSub, setX_0, setX_1, setX_2, setX_3, wp_mtD, mtX_pop, mtX_app, Option.map_some, Option.map_none, Option.bind_some, Option.bind_none, List.map_cons, List.map_nil, List.append_nil, List.nil_append, List.cons_append, List.replicate_succ, List.replicate_zero, true_and, and_true, if_true, if_false, ne_eq, not_true_eq_false, not_false_eq_true, Bool.not_true, Bool.not_false, forall_const, forall_false, implies_true, false_implies, true_implies, reduceCtorEq, List.set_set, mulOk_l, mulOk_r, Int.reduceEq, Int.reduceLT, Int.reduceLE, na_lit, na_neg, Nat.reduceLT, Nat.reduceLeDiff, and_self, List.length_cons, List.length_nil, Tgs.len, Nat.reduceAdd, Nat.reduceEqDiff, eq_self, decide_true, decide_false, List.getElem?_cons_zero, List.getElem?_cons_succ, Bool.and_false, Bool.false_and, Bool.or_true, Bool.or_false, Bool.true_or, Bool.false_or, and_assoc]
      refine cp_mono (draw b (by omega) (by omega) (by decide)) ?_
      rintro _ S1 ⟨v, rfl, v0, v1, b1⟩
      obtain ⟨k, hk⟩ : ∃ k : Nat, 1 + v = k := ⟨(1 + v).toNat, by omega⟩
      simp only [↓wp_int, ↓wp_str, ↓wp_bl, ↓wp_non, ↓wp_gint, ↓wp_gcls, ↓wp_var, ↓wp_tup, ↓wp_lst, ↓wp_bin, ↓wp_neg, ↓wp_cmp, ↓wp_isc, ↓wp_chain, ↓wp_and, ↓wp_or, ↓wp_and1, ↓wp_and2, ↓wp_or1, ↓wp_or2, ↓wp_not, ↓wp_ifx, ↓wp_idx, ↓wp_slc, ↓wp_rev, ↓wp_fld, ↓wp_call, ↓wp_callk, ↓wp_new, ↓wp_bi, ↓wp_lrg, ↓wp_isi, ↓wp_mt, ↓wp_comp, ↓wp_gal, ↓wp_evP0, ↓wp_evP1, ↓wp_nil, ↓wp_cons, ↓wp_nilB, ↓wp_consB, ↓wp_ts0, ↓wp_ts1, ↓wo_lst, ↓wo_comp, ↓wo_lrg, ↓wo_list, ↓wo_sorted, ↓wo_rev, ↓wo_add, ↓wo_mul, ↓wi_seq, ↓wi_rng, ↓wi_enum, ↓wt_nm, ↓wt_tup, ↓wt_nil, ↓wt_cons, ↓wt_sub, ↓wt_fld, ↓ws_nil, ↓ws_asg, ↓ws_aown, ↓ws_par, ↓ws_expr, ↓ws_ret, ↓ws_retn, ↓ws_pas, ↓ws_doc, ↓ws_brk, ↓ws_cnt, ↓ws_iteN, ↓ws_ite, ↓ws_for, ↓ws_whl, srK_rt, srK_nx, srK_ct, mtX_popS, eq_nils, ne_nils, pk_nil', pk_cons', Option.toList_some, Option.toList_none, bin_powI, at_ibI, slcT_to, slcL_to, List.take_succ_cons, List.take_zero, Int.reduceNeg, Int.zero_add, setX_m1, wp_setFld, setFS_new, fld_ins, wp_compF, wp_forF, wipe_nil, wipe_cons, restore_nil, restore_cons, wip_nil, wip_cons, wipS_emp, wipS_val, tok_none, rng1, rng2, rng3, rngL1, rngL2, tok_lst, tok_tup, forK_nx, forK_ct, forK_bk, forK_rt, Bool.and_self, Bool.and_true, Bool.true_and, Int.reduceToNat, Int.toNat_natCast, Int.reduceSub, Nat.reduceSub, nums_len, wp_ok, wp_bad, wp_bind, wp_ret, wp_some, wp_none, wp_ifS, wp_ifSm, wp_ifSb, Bool.false_eq_true, wp_if, br_true, br_false, br_dec, br_not, cbr_true, cbr_false, cbr_dec, cbr_not, wp_ofRC, wp_blk, cp_ok, endK_rt, endK_nx, orc_n, orc_s, look_zero, look_succ, has_zero, has_succ, set_zero, set_succ, getS_val, getS_ownT, getS_ownF, getS_owniT, getS_owniF, view_slt, view_ref, viewS_own, viewS_owni, viewO_lst, viewO_ins, view_int, view_bl, view_str, view_non, view_tup, view_lst, view_ins, go_nx, go_rt, go_bk, go_ct, bin_addI, bin_subI, bin_mulI, bin_fdivI, bin_modI, bin_addT, bin_addL, cmp_eqI, cmp_neI, cmp_ltI, cmp_leI, cmp_gtI, cmp_geI, idx_lst, idx_tup, at_0, at_1, at_2, at_3, at_4, at_5, at_m1, len_lst, len_tup, bi_int, bi_abs, bi_intb, bi_max2, bi_min2, bi_min3, bi_tupL, bi_tupT, bi_lstL, bi_lstT, seq_lst, seq_tup, lst_lst, bl_bl, int_int, isN_int, isN_bl, isN_non, isN_tup, isN_lst, isN_str, isN_ins, isB_int, isB_tup, isB_non, isB_str, isB_tt, isB_tf, isB_ft, isB_ff, lix_n, lix_t, lix_f, Int.cast_ofNat_Int, in_lst, in_tup, nin_lst, nin_tup, srt_lst, srt_tup, eq_tups, isT_int, isT_tup, isT_lst, isT_str, isT_bl, isT_non, isT_ins, isT_nil, putS_own, putR_lst, wp_putS, wp_putR, wp_setSub, setX_0, setX_1, setX_2, setX_3, wp_mtD, mtX_pop, mtX_app, Option.map_some, Option.map_none, Option.bind_some, Option.bind_none, List.map_cons, List.map_nil, List.append_nil, List.nil_append, List.cons_append, List.replicate_succ, List.replicate_zero, true_and, and_true, if_true, if_false, ne_eq, not_true_eq_false, not_false_eq_true, Bool.not_true, Bool.not_false, forall_const, forall_false, implies_true, false_implies, true_implies, reduceCtorEq, List.set_set, mulOk_l, mulOk_r, Int.reduceEq, Int.reduceLT, Int.reduceLE, na_lit, na_neg, Nat.reduceLT, Nat.reduceLeDiff, and_self, List.length_cons, List.length_nil, Tgs.len, Nat.reduceAdd, Nat.reduceEqDiff, eq_self, decide_true, decide_false, List.getElem?_cons_zero, List.getElem?_cons_succ, Bool.and_false, Bool.false_and, Bool.or_true, Bool.or_false, Bool.true_or, Bool.false_or, and_assoc, hk]
      refine cp_mono (draw b1 (by omega) (by omega) (by decide)) ?_
      rintro _ S2 ⟨f, rfl, f0, f1, b2⟩
      obtain ⟨f, rfl⟩ : ∃ g : Nat, f = g := ⟨f.toNat, by omega⟩
      simp only [↓wp_int, ↓wp_str, ↓wp_bl, ↓wp_non, ↓wp_gint, ↓wp_gcls, ↓wp_var, ↓wp_tup, ↓wp_lst, ↓wp_bin, ↓wp_neg, ↓wp_cmp, ↓wp_isc, ↓wp_chain, ↓wp_and, ↓wp_or, ↓wp_and1, ↓wp_and2, ↓wp_or1, ↓wp_or2, ↓wp_not, ↓wp_ifx, ↓wp_idx, ↓wp_slc, ↓wp_rev, ↓wp_fld, ↓wp_call, ↓wp_callk, ↓wp_new, ↓wp_bi, ↓wp_lrg, ↓wp_isi, ↓wp_mt, ↓wp_comp, ↓wp_gal, ↓wp_evP0, ↓wp_evP1, ↓wp_nil, ↓wp_cons, ↓wp_nilB, ↓wp_consB, ↓wp_ts0, ↓wp_ts1, ↓wo_lst, ↓wo_comp, ↓wo_lrg, ↓wo_list, ↓wo_sorted, ↓wo_rev, ↓wo_add, ↓wo_mul, ↓wi_seq, ↓wi_rng, ↓wi_enum, ↓wt_nm, ↓wt_tup, ↓wt_nil, ↓wt_cons, ↓wt_sub, ↓wt_fld, ↓ws_nil, ↓ws_asg, ↓ws_aown, ↓ws_par, ↓ws_expr, ↓ws_ret, ↓ws_retn, ↓ws_pas, ↓ws_doc, ↓ws_brk, ↓ws_cnt, ↓ws_iteN, ↓ws_ite, ↓ws_for, ↓ws_whl, srK_rt, srK_nx, srK_ct, mtX_popS, eq_nils, ne_nils, pk_nil', pk_cons', Option.toList_some, Option.toList_none, bin_powI, at_ibI, slcT_to, slcL_to, List.take_succ_cons, List.take_zero, Int.reduceNeg, Int.zero_add, setX_m1, wp_setFld, setFS_new, fld_ins, wp_compF, wp_forF, wipe_nil, wipe_cons, restore_nil, restore_cons, wip_nil, wip_cons, wipS_emp, wipS_val, tok_none, rng1, rng2, rng3, rngL1, rngL2, tok_lst, tok_tup, forK_nx, forK_ct, forK_bk, forK_rt, Bool.and_self, Bool.and_true, Bool.true_and, Int.reduceToNat, Int.toNat_natCast, Int.reduceSub, Nat.reduceSub, nums_len, wp_ok, wp_bad, wp_bind, wp_ret, wp_some, wp_none, wp_ifS, wp_ifSm, wp_ifSb, Bool.false_eq_true, wp_if, br_true, br_false, br_dec, br_not, cbr_true, cbr_false, cbr_dec, cbr_not, wp_ofRC, wp_blk, cp_ok, endK_rt, endK_nx, orc_n, orc_s, look_zero, look_succ, has_zero, has_succ, set_zero, set_succ, getS_val, getS_ownT, getS_ownF, getS_owniT, getS_owniF, view_slt, view_ref, viewS_own, viewS_owni, viewO_lst, viewO_ins, view_int, view_bl, view_str, view_non, view_tup, view_lst, view_ins, go_nx, go_rt, go_bk, go_ct, bin_addI, bin_subI, bin_mulI, bin_fdivI, bin_modI, bin_addT, bin_addL, cmp_eqI, cmp_neI, cmp_ltI, cmp_leI, cmp_gtI, cmp_geI, idx_lst, idx_tup, at_0, at_1, at_2, at_3, at_4, at_5, at_m1, len_lst, len_tup, bi_int, bi_abs, bi_intb, bi_max2, bi_min2, bi_min3, bi_tupL, bi_tupT, bi_lstL, bi_lstT, seq_lst, seq_tup, lst_lst, bl_bl, int_int, isN_int, isN_bl, isN_non, isN_tup, isN_lst, isN_str, isN_ins, isB_int, isB_tup, isB_non, isB_str, isB_tt, isB_tf, isB_ft, isB_ff, lix_n, lix_t, lix_f, Int.cast_ofNat_Int, in_lst, in_tup, nin_lst, nin_tup, srt_lst, srt_tup, eq_tups, isT_int, isT_tup, isT_lst, isT_str, isT_bl, isT_non, isT_ins, isT_nil, putS_own, putR_lst, wp_putS, wp_putR, wp_setSub, setX_0, setX_1, setX_2, setX_3, wp_mtD, mtX_pop, mtX_app, Option.map_some, Option.map_none, Option.bind_some, Option.bind_none, List.map_cons, List.map_nil, List.append_nil, List.nil_append, List.cons_append, List.replicate_succ, List.replicate_zero, true_and, and_true, if_true, if_false, ne_eq, not_true_eq_false, not_false_eq_true, Bool.not_true, Bool.not_false, forall_const, forall_false, implies_true, false_implies, true_implies, reduceCtorEq, List.set_set, mulOk_l, mulOk_r, Int.reduceEq, Int.reduceLT, Int.reduceLE, na_lit, na_neg, Nat.reduceLT, Nat.reduceLeDiff, and_self, List.length_cons, List.length_nil, Tgs.len, Nat.reduceAdd, Nat.reduceEqDiff, eq_self, decide_true, decide_false, List.getElem?_cons_zero, List.getElem?_cons_succ, Bool.and_false, Bool.false_and, Bool.or_true, Bool.or_false, Bool.true_or, Bool.false_or, and_assoc]
      refine cp_mono (numbers b2 (by omega) (by omega) (by omega) (by omega) (by decide)) ?_
      rintro _ S4 ⟨d, a, b', c, s, rfl, hN, s0, s1, b4⟩
      obtain ⟨a1, a2, a3, a4, a5, a6, a7, a8, a9, a10, a11, a12⟩ := id hN
      obtain ⟨a, rfl⟩ : ∃ g : Nat, a = g := ⟨a.toNat, by omega⟩
      obtain ⟨b', rfl⟩ : ∃ g : Nat, b' = g := ⟨b'.toNat, by omega⟩
      obtain ⟨c, rfl⟩ : ∃ g : Nat, c = g := ⟨c.toNat, by omega⟩
      obtain ⟨s, rfl⟩ : ∃ g : Nat, s = g := ⟨s.toNat, by omega⟩
      simp only [↓wp_int, ↓wp_str, ↓wp_bl, ↓wp_non, ↓wp_gint, ↓wp_gcls, ↓wp_var, ↓wp_tup, ↓wp_lst, ↓wp_bin, ↓wp_neg, ↓wp_cmp, ↓wp_isc, ↓wp_chain, ↓wp_and, ↓wp_or, ↓wp_and1, ↓wp_and2, ↓wp_or1, ↓wp_or2, ↓wp_not, ↓wp_ifx, ↓wp_idx, ↓wp_slc, ↓wp_rev, ↓wp_fld, ↓wp_call, ↓wp_callk, ↓wp_new, ↓wp_bi, ↓wp_lrg, ↓wp_isi, ↓wp_mt, ↓wp_comp, ↓wp_gal, ↓wp_evP0, ↓wp_evP1, ↓wp_nil, ↓wp_cons, ↓wp_nilB, ↓wp_consB, ↓wp_ts0, ↓wp_ts1, ↓wo_lst, ↓wo_comp, ↓wo_lrg, ↓wo_list, ↓wo_sorted, ↓wo_rev, ↓wo_add, ↓wo_mul, ↓wi_seq, ↓wi_rng, ↓wi_enum, ↓wt_nm, ↓wt_tup, ↓wt_nil, ↓wt_cons, ↓wt_sub, ↓wt_fld, ↓ws_nil, ↓ws_asg, ↓ws_aown, ↓ws_par, ↓ws_expr, ↓ws_ret, ↓ws_retn, ↓ws_pas, ↓ws_doc, ↓ws_brk, ↓ws_cnt, ↓ws_iteN, ↓ws_ite, ↓ws_for, ↓ws_whl, srK_rt, srK_nx, srK_ct, mtX_popS, eq_nils, ne_nils, pk_nil', pk_cons', Option.toList_some, Option.toList_none, bin_powI, at_ibI, slcT_to, slcL_to, List.take_succ_cons, List.take_zero, Int.reduceNeg, Int.zero_add, setX_m1, wp_setFld, setFS_new, fld_ins, wp_compF, wp_forF, wipe_nil, wipe_cons, restore_nil, restore_cons, wip_nil, wip_cons, wipS_emp, wipS_val, tok_none, rng1, rng2, rng3, rngL1, rngL2, tok_lst, tok_tup, forK_nx, forK_ct, forK_bk, forK_rt, Bool.and_self, Bool.and_true, Bool.true_and, Int.reduceToNat, Int.toNat_natCast, Int.reduceSub, Nat.reduceSub, nums_len, wp_ok, wp_bad, wp_bind, wp_ret, wp_some, wp_none, wp_ifS, wp_ifSm, wp_ifSb, Bool.false_eq_true, wp_if, br_true, br_false, br_dec, br_not, cbr_true, cbr_false, cbr_dec, cbr_not, wp_ofRC, wp_blk, cp_ok, endK_rt, endK_nx, orc_n, orc_s, look_zero, look_succ, has_zero, has_succ, set_zero, set_succ, getS_val, getS_ownT, getS_ownF, getS_owniT, getS_owniF, view_slt, view_ref, viewS_own, viewS_owni, viewO_lst, viewO_ins, view_int, view_bl, view_str, view_non, view_tup, view_lst, view_ins, go_nx, go_rt, go_bk, go_ct, bin_addI, bin_subI, bin_mulI, bin_fdivI, bin_modI, bin_addT, bin_addL, cmp_eqI, cmp_neI, cmp_ltI, cmp_leI, cmp_gtI, cmp_geI, idx_lst, idx_tup, at_0, at_1, at_2, at_3, at_4, at_5, at_m1, len_lst, len_tup, bi_int, bi_abs, bi_intb, bi_max2, bi_min2, bi_min3, bi_tupL, bi_tupT, bi_lstL, bi_lstT, seq_lst, seq_tup, lst_lst, bl_bl, int_int, isN_int, isN_bl, isN_non, isN_tup, isN_lst, isN_str, isN_ins, isB_int, isB_tup, isB_non, isB_str, isB_tt, isB_tf, isB_ft, isB_ff, lix_n, lix_t, lix_f, Int.cast_ofNat_Int, in_lst, in_tup, nin_lst, nin_tup, srt_lst, srt_tup, eq_tups, isT_int, isT_tup, isT_lst, isT_str, isT_bl, isT_non, isT_ins, isT_nil, putS_own, putR_lst, wp_putS, wp_putR, wp_setSub, setX_0, setX_1, setX_2, setX_3, wp_mtD, mtX_pop, mtX_app, Option.map_some, Option.map_none, Option.bind_some, Option.bind_none, List.map_cons, List.map_nil, List.append_nil, List.nil_append, List.cons_append, List.replicate_succ, List.replicate_zero, true_and, and_true, if_true, if_false, ne_eq, not_true_eq_false, not_false_eq_true, Bool.not_true, Bool.not_false, forall_const, forall_false, implies_true, false_implies, true_implies, reduceCtorEq, List.set_set, mulOk_l, mulOk_r, Int.reduceEq, Int.reduceLT, Int.reduceLE, na_lit, na_neg, Nat.reduceLT, Nat.reduceLeDiff, and_self, List.length_cons, List.length_nil, Tgs.len, Nat.reduceAdd, Nat.reduceEqDiff, eq_self, decide_true, decide_false, List.getElem?_cons_zero, List.getElem?_cons_succ, Bool.and_false, Bool.false_and, Bool.or_true, Bool.or_false, Bool.true_or, Bool.false_or, and_assoc, right (q := 39) hN (by decide)]
      refine cp_mono (by_all (by omega) (by omega) (by decide)) ?_
      rintro x S ⟨rfl, hA⟩
      have e := all_apart (by omega) (by omega) (by omega) (by omega) (by omega) (by omega) (by omega) hA
      subst e
      simp only [↓wp_int, ↓wp_str, ↓wp_bl, ↓wp_non, ↓wp_gint, ↓wp_gcls, ↓wp_var, ↓wp_tup, ↓wp_lst, ↓wp_bin, ↓wp_neg, ↓wp_cmp, ↓wp_isc, ↓wp_chain, ↓wp_and, ↓wp_or, ↓wp_and1, ↓wp_and2, ↓wp_or1, ↓wp_or2, ↓wp_not, ↓wp_ifx, ↓wp_idx, ↓wp_slc, ↓wp_rev, ↓wp_fld, ↓wp_call, ↓wp_callk, ↓wp_new, ↓wp_bi, ↓wp_lrg, ↓wp_isi, ↓wp_mt, ↓wp_comp, ↓wp_gal, ↓wp_evP0, ↓wp_evP1, ↓wp_nil, ↓wp_cons, ↓wp_nilB, ↓wp_consB, ↓wp_ts0, ↓wp_ts1, ↓wo_lst, ↓wo_comp, ↓wo_lrg, ↓wo_list, ↓wo_sorted, ↓wo_rev, ↓wo_add, ↓wo_mul, ↓wi_seq, ↓wi_rng, ↓wi_enum, ↓wt_nm, ↓wt_tup, ↓wt_nil, ↓wt_cons, ↓wt_sub, ↓wt_fld, ↓ws_nil, ↓ws_asg, ↓ws_aown, ↓ws_par, ↓ws_expr, ↓ws_ret, ↓ws_retn, ↓ws_pas, ↓ws_doc, ↓ws_brk, ↓ws_cnt, ↓ws_iteN, ↓ws_ite, ↓ws_for, ↓ws_whl, srK_rt, srK_nx, srK_ct, mtX_popS, eq_nils, ne_nils, pk_nil', pk_cons', Option.toList_some, Option.toList_none, bin_powI, at_ibI, slcT_to, slcL_to, List.take_succ_cons, List.take_zero, Int.reduceNeg, Int.zero_add, setX_m1, wp_setFld, setFS_new, fld_ins, wp_compF, wp_forF, wipe_nil, wipe_cons, restore_nil, restore_cons, wip_nil, wip_cons, wipS_emp, wipS_val, tok_none, rng1, rng2, rng3, rngL1, rngL2, tok_lst, tok_tup, forK_nx, forK_ct, forK_bk, forK_rt, Bool.and_self, Bool.and_true, Bool.true_and, Int.reduceToNat, Int.toNat_natCast, Int.reduceSub, Nat.reduceSub, nums_len, wp_ok, wp_bad, wp_bind, wp_ret, wp_some, wp_none, wp_ifS, wp_ifSm, wp_ifSb, Bool.false_eq_true, wp_if, br_true, br_false, br_dec, br_not, cbr_true, cbr_false, cbr_dec, cbr_not, wp_ofRC, wp_blk, cp_ok, endK_rt, endK_nx, orc_n, orc_s, look_zero, look_succ, has_zero, has_succ, set_zero, set_succ, getS_val, getS_ownT, getS_ownF, getS_owniT, getS_owniF, view_slt, view_ref, viewS_own, viewS_owni, viewO_lst, viewO_ins, view_int, view_bl, view_str, view_non, view_tup, view_lst, view_ins, go_nx, go_rt, go_bk, go_ct, bin_addI, bin_subI, bin_mulI, bin_fdivI, bin_modI, bin_addT, bin_addL, cmp_eqI, cmp_neI, cmp_ltI, cmp_leI, cmp_gtI, cmp_geI, idx_lst, idx_tup, at_0, at_1, at_2, at_3, at_4, at_5, at_m1, len_lst, len_tup, bi_int, bi_abs, bi_intb, bi_max2, bi_min2, bi_min3, bi_tupL, bi_tupT, bi_lstL, bi_lstT, seq_lst, seq_tup, lst_lst, bl_bl, int_int, isN_int, isN_bl, isN_non, isN_tup, isN_lst, isN_str, isN_ins, isB_int, isB_tup, isB_non, isB_str, isB_tt, isB_tf, isB_ft, isB_ff, lix_n, lix_t, lix_f, Int.cast_ofNat_Int, in_lst, in_tup, nin_lst, nin_tup, srt_lst, srt_tup, eq_tups, isT_int, isT_tup, isT_lst, isT_str, isT_bl, isT_non, isT_ins, isT_nil, putS_own, putR_lst, wp_putS, wp_putR, wp_setSub, setX_0, setX_1, setX_2, setX_3, wp_mtD, mtX_pop, mtX_app, Option.map_some, Option.map_none, Option.bind_some, Option.bind_none, List.map_cons, List.map_nil, List.append_nil, List.nil_append, List.cons_append, List.replicate_succ, List.replicate_zero, true_and, and_true, if_true, if_false, ne_eq, not_true_eq_false, not_false_eq_true, Bool.not_true, Bool.not_false, forall_const, forall_false, implies_true, false_implies, true_implies, reduceCtorEq, List.set_set, mulOk_l, mulOk_r, Int.reduceEq, Int.reduceLT, Int.reduceLE, na_lit, na_neg, Nat.reduceLT, Nat.reduceLeDiff, and_self, List.length_cons, List.length_nil, Tgs.len, Nat.reduceAdd, Nat.reduceEqDiff, eq_self, decide_true, decide_false, List.getElem?_cons_zero, List.getElem?_cons_succ, Bool.and_false, Bool.false_and, Bool.or_true, Bool.or_false, Bool.true_or, Bool.false_or, and_assoc, law_apart (q := 39) (k := k) (f := f) (d := d) (a := a) (b := b') (c := c) (s := s) (S := S) (by decide)]
      rcases kind_cases k f a b' c s with ⟨h1, h2⟩ | ⟨h1, h2⟩ | ⟨h1, h2⟩ <;> rw [h2]
      · simp only [↓wp_int, ↓wp_str, ↓wp_bl, ↓wp_non, ↓wp_gint, ↓wp_gcls, ↓wp_var, ↓wp_tup, ↓wp_lst, ↓wp_bin, ↓wp_neg, ↓wp_cmp, ↓wp_isc, ↓wp_chain, ↓wp_and, ↓wp_or, ↓wp_and1, ↓wp_and2, ↓wp_or1, ↓wp_or2, ↓wp_not, ↓wp_ifx, ↓wp_idx, ↓wp_slc, ↓wp_rev, ↓wp_fld, ↓wp_call, ↓wp_callk, ↓wp_new, ↓wp_bi, ↓wp_lrg, ↓wp_isi, ↓wp_mt, ↓wp_comp, ↓wp_gal, ↓wp_evP0, ↓wp_evP1, ↓wp_nil, ↓wp_cons, ↓wp_nilB, ↓wp_consB, ↓wp_ts0, ↓wp_ts1, ↓wo_lst, ↓wo_comp, ↓wo_lrg, ↓wo_list, ↓wo_sorted, ↓wo_rev, ↓wo_add, ↓wo_mul, ↓wi_seq, ↓wi_rng, ↓wi_enum, ↓wt_nm, ↓wt_tup, ↓wt_nil, ↓wt_cons, ↓wt_sub, ↓wt_fld, ↓ws_nil, ↓ws_asg, ↓ws_aown, ↓ws_par, ↓ws_expr, ↓ws_ret, ↓ws_retn, ↓ws_pas, ↓ws_doc, ↓ws_brk, ↓ws_cnt, ↓ws_iteN, ↓ws_ite, ↓ws_for, ↓ws_whl, srK_rt, srK_nx, srK_ct, mtX_popS, eq_nils, ne_nils, pk_nil', pk_cons', Option.toList_some, Option.toList_none, bin_powI, at_ibI, slcT_to, slcL_to, List.take_succ_cons, List.take_zero, Int.reduceNeg, Int.zero_add, setX_m1, wp_setFld, setFS_new, fld_ins, wp_compF, wp_forF, wipe_nil, wipe_cons, restore_nil, restore_cons, wip_nil, wip_cons, wipS_emp, wipS_val, tok_none, rng1, rng2, rng3, rngL1, rngL2, tok_lst, tok_tup, forK_nx, forK_ct, forK_bk, forK_rt, Bool.and_self, Bool.and_true, Bool.true_and, Int.reduceToNat, Int.toNat_natCast, Int.reduceSub, Nat.reduceSub, nums_len, wp_ok, wp_bad, wp_bind, wp_ret, wp_some, wp_none, wp_ifS, wp_ifSm, wp_ifSb, Bool.false_eq_true, wp_if, br_true, br_false, br_dec, br_not, cbr_true, cbr_false, cbr_dec, cbr_not, wp_ofRC, wp_blk, cp_ok, endK_rt, endK_nx, orc_n, orc_s, look_zero, look_succ, has_zero, has_succ, set_zero, set_succ, getS_val, getS_ownT, getS_ownF, getS_owniT, getS_owniF, view_slt, view_ref, viewS_own, viewS_owni, viewO_lst, viewO_ins, view_int, view_bl, view_str, view_non, view_tup, view_lst, view_ins, go_nx, go_rt, go_bk, go_ct, bin_addI, bin_subI, bin_mulI, bin_fdivI, bin_modI, bin_addT, bin_addL, cmp_eqI, cmp_neI, cmp_ltI, cmp_leI, cmp_gtI, cmp_geI, idx_lst, idx_tup, at_0, at_1, at_2, at_3, at_4, at_5, at_m1, len_lst, len_tup, bi_int, bi_abs, bi_intb, bi_max2, bi_min2, bi_min3, bi_tupL, bi_tupT, bi_lstL, bi_lstT, seq_lst, seq_tup, lst_lst, bl_bl, int_int, isN_int, isN_bl, isN_non, isN_tup, isN_lst, isN_str, isN_ins, isB_int, isB_tup, isB_non, isB_str, isB_tt, isB_tf, isB_ft, isB_ff, lix_n, lix_t, lix_f, Int.cast_ofNat_Int, in_lst, in_tup, nin_lst, nin_tup, srt_lst, srt_tup, eq_tups, isT_int, isT_tup, isT_lst, isT_str, isT_bl, isT_non, isT_ins, isT_nil, putS_own, putR_lst, wp_putS, wp_putR, wp_setSub, setX_0, setX_1, setX_2, setX_3, wp_mtD, mtX_pop, mtX_app, Option.map_some, Option.map_none, Option.bind_some, Option.bind_none, List.map_cons, List.map_nil, List.append_nil, List.nil_append, List.cons_append, List.replicate_succ, List.replicate_zero, true_and, and_true, if_true, if_false, ne_eq, not_true_eq_false, not_false_eq_true, Bool.not_true, Bool.not_false, forall_const, forall_false, implies_true, false_implies, true_implies, reduceCtorEq, List.set_set, mulOk_l, mulOk_r, Int.reduceEq, Int.reduceLT, Int.reduceLE, na_lit, na_neg, Nat.reduceLT, Nat.reduceLeDiff, and_self, List.length_cons, List.length_nil, Tgs.len, Nat.reduceAdd, Nat.reduceEqDiff, eq_self, decide_true, decide_false, List.getElem?_cons_zero, List.getElem?_cons_succ, Bool.and_false, Bool.false_and, Bool.or_true, Bool.or_false, Bool.true_or, Bool.false_or, and_assoc]
        exact ⟨_, _, _, _, _, rfl, b4⟩
      · simp only [↓wp_int, ↓wp_str, ↓wp_bl, ↓wp_non, ↓wp_gint, ↓wp_gcls, ↓wp_var, ↓wp_tup, ↓wp_lst, ↓wp_bin, ↓wp_neg, ↓wp_cmp, ↓wp_isc, ↓wp_chain, ↓wp_and, ↓wp_or, ↓wp_and1, ↓wp_and2, ↓wp_or1, ↓wp_or2, ↓wp_not, ↓wp_ifx, ↓wp_idx, ↓wp_slc, ↓wp_rev, ↓wp_fld, ↓wp_call, ↓wp_callk, ↓wp_new, ↓wp_bi, ↓wp_lrg, ↓wp_isi, ↓wp_mt, ↓wp_comp, ↓wp_gal, ↓wp_evP0, ↓wp_evP1, ↓wp_nil, ↓wp_cons, ↓wp_nilB, ↓wp_consB, ↓wp_ts0, ↓wp_ts1, ↓wo_lst, ↓wo_comp, ↓wo_lrg, ↓wo_list, ↓wo_sorted, ↓wo_rev, ↓wo_add, ↓wo_mul, ↓wi_seq, ↓wi_rng, ↓wi_enum, ↓wt_nm, ↓wt_tup, ↓wt_nil, ↓wt_cons, ↓wt_sub, ↓wt_fld, ↓ws_nil, ↓ws_asg, ↓ws_aown, ↓ws_par, ↓ws_expr, ↓ws_ret, ↓ws_retn, ↓ws_pas, ↓ws_doc, ↓ws_brk, ↓ws_cnt, ↓ws_iteN, ↓ws_ite, ↓ws_for, ↓ws_whl, srK_rt, srK_nx, srK_ct, mtX_popS, eq_nils, ne_nils, pk_nil', pk_cons', Option.toList_some, Option.toList_none, bin_powI, at_ibI, slcT_to, slcL_to, List.take_succ_cons, List.take_zero, Int.reduceNeg, Int.zero_add, setX_m1, wp_setFld, setFS_new, fld_ins, wp_compF, wp_forF, wipe_nil, wipe_cons, restore_nil, restore_cons, wip_nil, wip_cons, wipS_emp, wipS_val, tok_none, rng1, rng2, rng3, rngL1, rngL2, tok_lst, tok_tup, forK_nx, forK_ct, forK_bk, forK_rt, Bool.and_self, Bool.and_true, Bool.true_and, Int.reduceToNat, Int.toNat_natCast, Int.reduceSub, Nat.reduceSub, nums_len, wp_ok, wp_bad, wp_bind, wp_ret, wp_some, wp_none, wp_ifS, wp_ifSm, wp_ifSb, Bool.false_eq_true, wp_if, br_true, br_false, br_dec, br_not, cbr_true, cbr_false, cbr_dec, cbr_not, wp_ofRC, wp_blk, cp_ok, endK_rt, endK_nx, orc_n, orc_s, look_zero, look_succ, has_zero, has_succ, set_zero, set_succ, getS_val, getS_ownT, getS_ownF, getS_owniT, getS_owniF, view_slt, view_ref, viewS_own, viewS_owni, viewO_lst, viewO_ins, view_int, view_bl, view_str, view_non, view_tup, view_lst, view_ins, go_nx, go_rt, go_bk, go_ct, bin_addI, bin_subI, bin_mulI, bin_fdivI, bin_modI, bin_addT, bin_addL, cmp_eqI, cmp_neI, cmp_ltI, cmp_leI, cmp_gtI, cmp_geI, idx_lst, idx_tup, at_0, at_1, at_2, at_3, at_4, at_5, at_m1, len_lst, len_tup, bi_int, bi_abs, bi_intb, bi_max2, bi_min2, bi_min3, bi_tupL, bi_tupT, bi_lstL, bi_lstT, seq_lst, seq_tup, lst_lst, bl_bl, int_int, isN_int, isN_bl, isN_non, isN_tup, isN_lst, isN_str, isN_ins, isB_int, isB_tup, isB_non, isB_str, isB_tt, isB_tf, isB_ft, isB_ff, lix_n, lix_t, lix_f, Int.cast_ofNat_Int, in_lst, in_tup, nin_lst, nin_tup, srt_lst, srt_tup, eq_tups, isT_int, isT_tup, isT_lst, isT_str, isT_bl, isT_non, isT_ins, isT_nil, putS_own, putR_lst, wp_putS, wp_putR, wp_setSub, setX_0, setX_1, setX_2, setX_3, wp_mtD, mtX_pop, mtX_app, Option.map_some, Option.map_none, Option.bind_some, Option.bind_none, List.map_cons, List.map_nil, List.append_nil, List.nil_append, List.cons_append, List.replicate_succ, List.replicate_zero, true_and, and_true, if_true, if_false, ne_eq, not_true_eq_false, not_false_eq_true, Bool.not_true, Bool.not_false, forall_const, forall_false, implies_true, false_implies, true_implies, reduceCtorEq, List.set_set, mulOk_l, mulOk_r, Int.reduceEq, Int.reduceLT, Int.reduceLE, na_lit, na_neg, Nat.reduceLT, Nat.reduceLeDiff, and_self, List.length_cons, List.length_nil, Tgs.len, Nat.reduceAdd, Nat.reduceEqDiff, eq_self, decide_true, decide_false, List.getElem?_cons_zero, List.getElem?_cons_succ, Bool.and_false, Bool.false_and, Bool.or_true, Bool.or_false, Bool.true_or, Bool.false_or, and_assoc]
        exact ⟨_, _, _, _, _, rfl, b4⟩
      · simp only [↓wp_int, ↓wp_str, ↓wp_bl, ↓wp_non, ↓wp_gint, ↓wp_gcls, ↓wp_var, ↓wp_tup, ↓wp_lst, ↓wp_bin, ↓wp_neg, ↓wp_cmp, ↓wp_isc, ↓wp_chain, ↓wp_and, ↓wp_or, ↓wp_and1, ↓wp_and2, ↓wp_or1, ↓wp_or2, ↓wp_not, ↓wp_ifx, ↓wp_idx, ↓wp_slc, ↓wp_rev, ↓wp_fld, ↓wp_call, ↓wp_callk, ↓wp_new, ↓wp_bi, ↓wp_lrg, ↓wp_isi, ↓wp_mt, ↓wp_comp, ↓wp_gal, ↓wp_evP0, ↓wp_evP1, ↓wp_nil, ↓wp_cons, ↓wp_nilB, ↓wp_consB, ↓wp_ts0, ↓wp_ts1, ↓wo_lst, ↓wo_comp, ↓wo_lrg, ↓wo_list, ↓wo_sorted, ↓wo_rev, ↓wo_add, ↓wo_mul, ↓wi_seq, ↓wi_rng, ↓wi_enum, ↓wt_nm, ↓wt_tup, ↓wt_nil, ↓wt_cons, ↓wt_sub, ↓wt_fld, ↓ws_nil, ↓ws_asg, ↓ws_aown, ↓ws_par, ↓ws_expr, ↓ws_ret, ↓ws_retn, ↓ws_pas, ↓ws_doc, ↓ws_brk, ↓ws_cnt, ↓ws_iteN, ↓ws_ite, ↓ws_for, ↓ws_whl, srK_rt, srK_nx, srK_ct, mtX_popS, eq_nils, ne_nils, pk_nil', pk_cons', Option.toList_some, Option.toList_none, bin_powI, at_ibI, slcT_to, slcL_to, List.take_succ_cons, List.take_zero, Int.reduceNeg, Int.zero_add, setX_m1, wp_setFld, setFS_new, fld_ins, wp_compF, wp_forF, wipe_nil, wipe_cons, restore_nil, restore_cons, wip_nil, wip_cons, wipS_emp, wipS_val, tok_none, rng1, rng2, rng3, rngL1, rngL2, tok_lst, tok_tup, forK_nx, forK_ct, forK_bk, forK_rt, Bool.and_self, Bool.and_true, Bool.true_and, Int.reduceToNat, Int.toNat_natCast, Int.reduceSub, Nat.reduceSub, nums_len, wp_ok, wp_bad, wp_bind, wp_ret, wp_some, wp_none, wp_ifS, wp_ifSm, wp_ifSb, Bool.false_eq_true, wp_if, br_true, br_false, br_dec, br_not, cbr_true, cbr_false, cbr_dec, cbr_not, wp_ofRC, wp_blk, cp_ok, endK_rt, endK_nx, orc_n, orc_s, look_zero, look_succ, has_zero, has_succ, set_zero, set_succ, getS_val, getS_ownT, getS_ownF, getS_owniT, getS_owniF, view_slt, view_ref, viewS_own, viewS_owni, viewO_lst, viewO_ins, view_int, view_bl, view_str, view_non, view_tup, view_lst, view_ins, go_nx, go_rt, go_bk, go_ct, bin_addI, bin_subI, bin_mulI, bin_fdivI, bin_modI, bin_addT, bin_addL, cmp_eqI, cmp_neI, cmp_ltI, cmp_leI, cmp_gtI, cmp_geI, idx_lst, idx_tup, at_0, at_1, at_2, at_3, at_4, at_5, at_m1, len_lst, len_tup, bi_int, bi_abs, bi_intb, bi_max2, bi_min2, bi_min3, bi_tupL, bi_tupT, bi_lstL, bi_lstT, seq_lst, seq_tup, lst_lst, bl_bl, int_int, isN_int, isN_bl, isN_non, isN_tup, isN_lst, isN_str, isN_ins, isB_int, isB_tup, isB_non, isB_str, isB_tt, isB_tf, isB_ft, isB_ff, lix_n, lix_t, lix_f, Int.cast_ofNat_Int, in_lst, in_tup, nin_lst, nin_tup, srt_lst, srt_tup, eq_tups, isT_int, isT_tup, isT_lst, isT_str, isT_bl, isT_non, isT_ins, isT_nil, putS_own, putR_lst, wp_putS, wp_putR, wp_setSub, setX_0, setX_1, setX_2, setX_3, wp_mtD, mtX_pop, mtX_app, Option.map_some, Option.map_none, Option.bind_some, Option.bind_none, List.map_cons, List.map_nil, List.append_nil, List.nil_append, List.cons_append, List.replicate_succ, List.replicate_zero, true_and, and_true, if_true, if_false, ne_eq, not_true_eq_false, not_false_eq_true, Bool.not_true, Bool.not_false, forall_const, forall_false, implies_true, false_implies, true_implies, reduceCtorEq, List.set_set, mulOk_l, mulOk_r, Int.reduceEq, Int.reduceLT, Int.reduceLE, na_lit, na_neg, Nat.reduceLT, Nat.reduceLeDiff, and_self, List.length_cons, List.length_nil, Tgs.len, Nat.reduceAdd, Nat.reduceEqDiff, eq_self, decide_true, decide_false, List.getElem?_cons_zero, List.getElem?_cons_succ, Bool.and_false, Bool.false_and, Bool.or_true, Bool.or_false, Bool.true_or, Bool.false_or, and_assoc, ne_non]
        exact ⟨_, _, _, _, _, rfl, b4⟩
    · rintro s ⟨w2, w3, w4, w5, S, rfl, b⟩
      refine ⟨rfl, ?_⟩
      simp only [↓wp_int, ↓wp_str, ↓wp_bl, ↓wp_non, ↓wp_gint, ↓wp_gcls, ↓wp_var, ↓wp_tup, ↓wp_lst, ↓wp_bin, ↓wp_neg, ↓wp_cmp, ↓wp_isc, ↓wp_chain, ↓wp_and, ↓wp_or, ↓wp_and1, ↓wp_and2, ↓wp_or1, ↓wp_or2, ↓wp_not, ↓wp_ifx, ↓wp_idx, ↓wp_slc, ↓wp_rev, ↓wp_fld, ↓wp_call, ↓wp_callk, ↓wp_new, ↓wp_bi, ↓wp_lrg, ↓wp_isi, ↓wp_mt, ↓wp_comp, ↓wp_gal, ↓wp_evP0, ↓wp_evP1, ↓wp_nil, ↓wp_cons, ↓wp_nilB, ↓wp_consB, ↓wp_ts0, ↓wp_ts1, ↓wo_lst, ↓wo_comp, ↓wo_lrg, ↓wo_list, ↓wo_sorted, ↓wo_rev, ↓wo_add, ↓wo_mul, ↓wi_seq, ↓wi_rng, ↓wi_enum, ↓wt_nm, ↓wt_tup, ↓wt_nil, ↓wt_cons, ↓wt_sub, ↓wt_fld, ↓ws_nil, ↓ws_asg, ↓ws_aown, ↓ws_par, ↓ws_expr, ↓ws_ret, ↓ws_retn, ↓ws_pas, ↓ws_doc, ↓ws_brk, ↓ws_cnt, ↓ws_iteN, ↓ws_ite, ↓ws_for, ↓ws_whl, srK_rt, srK_nx, srK_ct, mtX_popS, eq_nils, ne_nils, pk_nil', pk_cons', Option.toList_some, Option.toList_none, bin_powI, at_ibI, slcT_to, slcL_to, List.take_succ_cons, List.take_zero, Int.reduceNeg, Int.zero_add, setX_m1, wp_setFld, setFS_new, fld_ins, wp_compF, wp_forF, wipe_nil, wipe_cons, restore_nil, restore_cons, wip_nil, wip_cons, wipS_emp, wipS_val, tok_none, rng1, rng2, rng3, rngL1, rngL2, tok_lst, tok_tup, forK_nx, forK_ct, forK_bk, forK_rt, Bool.and_self, Bool.and_true, Bool.true_and, Int.reduceToNat, Int.toNat_natCast, Int.reduceSub, Nat.reduceSub, nums_len, wp_ok, wp_bad, wp_bind, wp_ret, wp_some, wp_none, wp_ifS, wp_ifSm, wp_ifSb, Bool.false_eq_true, wp_if, br_true, br_false, br_dec, br_not, cbr_true, cbr_false, cbr_dec, cbr_not, wp_ofRC, wp_blk, cp_ok, endK_rt, endK_nx, orc_n, orc_s, look_zero, look_succ, has_zero, has_succ, set_zero, set_succ, getS_val, getS_ownT, getS_ownF, getS_owniT, getS_owniF, view_slt, view_ref, viewS_own, viewS_owni, viewO_lst, viewO_ins, view_int, view_bl, view_str, view_non, view_tup, view_lst, view_ins, go_nx, go_rt, go_bk, go_ct, bin_addI, bin_subI, bin_mulI, bin_fdivI, bin_modI, bin_addT, bin_addL, cmp_eqI, cmp_neI, cmp_ltI, cmp_leI, cmp_gtI, cmp_geI, idx_lst, idx_tup, at_0, at_1, at_2, at_3, at_4, at_5, at_m1, len_lst, len_tup, bi_int, bi_abs, bi_intb, bi_max2, bi_min2, bi_min3, bi_tupL, bi_tupT, bi_lstL, bi_lstT, seq_lst, seq_tup, lst_lst, bl_bl, int_int, isN_int, isN_bl, isN_non, isN_tup, isN_lst, isN_str, isN_ins, isB_int, isB_tup, isB_non, isB_str, isB_tt, isB_tf, isB_ft, isB_ff, lix_n, lix_t, lix_f, Int.cast_ofNat_Int, in_lst, in_tup, nin_lst, nin_tup, srt_lst, srt_tup, eq_tups, isT_int, isT_tup, isT_lst, isT_str, isT_bl, isT_non, isT_ins, isT_nil, putS_own, putR_lst, wp_putS, wp_putR, wp_setSub, setX_0, setX_1, setX_2, setX_3, wp_mtD, mtX_pop, mtX_app, Option.map_some, Option.map_none, Option.bind_some, Option.bind_none, List.map_cons, List.map_nil, List.append_nil, List.nil_append, List.cons_append, List.replicate_succ, List.replicate_zero, true_and, and_true, if_true, if_false, ne_eq, not_true_eq_false, not_false_eq_true, Bool.not_true, Bool.not_false, forall_const, forall_false, implies_true, false_implies, true_implies, reduceCtorEq, List.set_set, mulOk_l, mulOk_r, Int.reduceEq, Int.reduceLT, Int.reduceLE, na_lit, na_neg, Nat.reduceLT, Nat.reduceLeDiff, and_self, List.length_cons, List.length_nil, Tgs.len, Nat.reduceAdd, Nat.reduceEqDiff, eq_self, decide_true, decide_false, List.getElem?_cons_zero, List.getElem?_cons_succ, Bool.and_false, Bool.false_and, Bool.or_true, Bool.or_false, Bool.true_or, Bool.false_or, and_assoc, TrueP, right (q := 39) (k := 2) (f := 1) (d := 1) (a := 1) (b := 1) (c := 1) (s := 1) (S := S) ⟨by decide, by decide, by decide, by decide, by decide, by decide, by decide, by decide, by decide, by decide, by decide, by decide⟩ (by decide), right (q := 39) (k := 5) (f := 1) (d := 1) (a := 5) (b := 2) (c := 4) (s := 1) (S := S) ⟨by decide, by decide, by decide, by decide, by decide, by decide, by decide, by decide, by decide, by decide, by decide, by decide⟩ (by decide)]
theorem law_true : ∀ ns : List Int, ns.length ≤ 63 → ∃ S, callF T 40 f_law none [.lst (ns.map .int)] [] = .ok (.bl true) S := by
  intro ns hl
  obtain ⟨d, S, e, h⟩ := law_ok (ns := ns)
  cases h
  exact ⟨S, e⟩
end K33

namespace K33
open PySem L2 Dn
abbrev prog : Program := PySem.Challenge.pw_liarsapart_k33_whole_how_far_apart
def top (i : Nat) : Stmt := prog.main.body.getD i (.Pass ⟨0, 0, 0, 0⟩)
def d_near_slack : Def := ⟨("near_slack", none), "near_slack", "near_slack", defArgs (top 1), defBody (top 1), defScope (top 1), [], ["numbers", "spread"], fn_near_slack⟩
def d_far_slack : Def := ⟨("far_slack", none), "far_slack", "far_slack", defArgs (top 2), defBody (top 2), defScope (top 2), [], ["numbers", "spread"], fn_far_slack⟩
def d_kind_of : Def := ⟨("kind_of", none), "kind_of", "kind_of", defArgs (top 6), defBody (top 6), defScope (top 6), [], ["numbers", "spread"], fn_kind_of⟩
def d_least_apart : Def := ⟨("least_apart", none), "least_apart", "least_apart", defArgs (top 7), defBody (top 7), defScope (top 7), [], ["numbers", "spread", "kind", "second"], fn_least_apart⟩
def d_is_integer : Def := ⟨("is_integer", none), "is_integer", "is_integer", defArgs (top 12), defBody (top 12), defScope (top 12), [], ["value"], fn_is_integer⟩
def d_is_number : Def := ⟨("is_number", none), "is_number", "is_number", defArgs (top 13), defBody (top 13), defScope (top 13), [.non], ["value", "most"], fn_is_number⟩
def d_Numbers___init__ : Def := ⟨("Numbers", some "__init__"), "__init__", "Numbers.__init__", defArgs (inClass (top 17) 0), defBody (inClass (top 17) 0), defScope (inClass (top 17) 0), [], ["self", "k", "f", "d", "w1", "w2", "g", "place", "many"], fn_Numbers___init__⟩
def d__law_heap : Def := ⟨("_law_heap", none), "_law_heap", "_law_heap", defArgs (top 19), defBody (top 19), defScope (top 19), [], ["script", "cell", "cells", "stir"], fn__law_heap⟩
def d__law_draw : Def := ⟨("_law_draw", none), "_law_draw", "_law_draw", defArgs (top 20), defBody (top 20), defScope (top 20), [], ["heap", "many", "rest"], fn__law_draw⟩
def d__law_pick : Def := ⟨("_law_pick", none), "_law_pick", "_law_pick", defArgs (top 21), defBody (top 21), defScope (top 21), [], ["heap", "some"], fn__law_pick⟩
def d__law_like : Def := ⟨("_law_like", none), "_law_like", "_law_like", defArgs (top 22), defBody (top 22), defScope (top 22), [], ["told", "due", "at"], fn__law_like⟩
def d__law_numbers : Def := ⟨("_law_numbers", none), "_law_numbers", "_law_numbers", defArgs (top 23), defBody (top 23), defScope (top 23), [], ["heap", "k", "f", "spread", "both", "w1", "w2", "g"], fn__law_numbers⟩
def d__law_kind : Def := ⟨("_law_kind", none), "_law_kind", "_law_kind", defArgs (top 24), defBody (top 24), defScope (top 24), [], ["parts", "spread", "k", "f", "d", "w1", "w2", "g"], fn__law_kind⟩
def d__law_apart : Def := ⟨("_law_apart", none), "_law_apart", "_law_apart", defArgs (top 25), defBody (top 25), defScope (top 25), [], ["parts", "spread", "kind", "k", "f", "d", "w1", "w2", "g"], fn__law_apart⟩
def d__law_lots : Def := ⟨("_law_lots", none), "_law_lots", "_law_lots", defArgs (top 26), defBody (top 26), defScope (top 26), [], ["houses", "many", "found", "house", "lot"], fn__law_lots⟩
def d__law_near : Def := ⟨("_law_near", none), "_law_near", "_law_near", defArgs (top 27), defBody (top 27), defScope (top 27), [], ["parts", "unlike", "seconds", "first", "k", "f", "d", "w1", "w2", "g", "second", "house"], fn__law_near⟩
def d__law_far : Def := ⟨("_law_far", none), "_law_far", "_law_far", defArgs (top 28), defBody (top 28), defScope (top 28), [], ["parts", "spread", "unlike", "houses", "liars", "k", "f", "d", "w1", "w2", "g", "keepers", "bound", "first", "house", "out"], fn__law_far⟩
def d__law_by_all : Def := ⟨("_law_by_all", none), "_law_by_all", "_law_by_all", defArgs (top 29), defBody (top 29), defScope (top 29), [], ["parts", "spread", "k", "unlike"], fn__law_by_all⟩
def d__law_right : Def := ⟨("_law_right", none), "_law_right", "_law_right", defArgs (top 30), defBody (top 30), defScope (top 30), [], ["parts", "spread", "numbers"], fn__law_right⟩
def d_law : Def := ⟨("law", none), "law", "law", defArgs (top 31), defBody (top 31), defScope (top 31), [], ["script", "heap", "turn", "k", "parts", "spread"], fn_law⟩
def prg : Prg := {
  defs := [d_near_slack, d_far_slack, d_kind_of, d_least_apart, d_is_integer, d_is_number, d_Numbers___init__, d__law_heap, d__law_draw, d__law_pick, d__law_like, d__law_numbers, d__law_kind, d__law_apart, d__law_lots, d__law_near, d__law_far, d__law_by_all, d__law_right, d_law]
  gi := [("NEAR", 1), ("FAR", 2), ("MOST_COPIES", 12), ("MOST_LAG", 200)]
  bl := ["max", "isinstance", "int", "bool", "enumerate", "abs", "len", "tuple", "all", "range", "str", "min", "list", "any"]
  cls := ["Numbers"]
  inits := [6]
  flds := [[1, 2, 5, 0, 4, 3]]
  nm := ["w1", "k", "f", "g", "w2", "d"]
  kbs := [(2, 0, ["spread", "numbers"], [1, 0]), (3, 0, ["spread", "numbers"], [1, 0])] }
theorem T_eq : prg.T = T := rfl
theorem ok_near_slack : prg.okD d_near_slack = true := by decide +kernel
theorem ok_far_slack : prg.okD d_far_slack = true := by decide +kernel
theorem ok_kind_of : prg.okD d_kind_of = true := by decide +kernel
theorem ok_least_apart : prg.okD d_least_apart = true := by decide +kernel
theorem ok_is_integer : prg.okD d_is_integer = true := by decide +kernel
theorem ok_is_number : prg.okD d_is_number = true := by decide +kernel
theorem ok_Numbers___init__ : prg.okD d_Numbers___init__ = true := by decide +kernel
theorem ok__law_heap : prg.okD d__law_heap = true := by decide +kernel
theorem ok__law_draw : prg.okD d__law_draw = true := by decide +kernel
theorem ok__law_pick : prg.okD d__law_pick = true := by decide +kernel
theorem ok__law_like : prg.okD d__law_like = true := by decide +kernel
theorem ok__law_numbers : prg.okD d__law_numbers = true := by decide +kernel
theorem ok__law_kind : prg.okD d__law_kind = true := by decide +kernel
theorem ok__law_apart : prg.okD d__law_apart = true := by decide +kernel
theorem ok__law_lots : prg.okD d__law_lots = true := by decide +kernel
theorem ok__law_near : prg.okD d__law_near = true := by decide +kernel
theorem ok__law_far : prg.okD d__law_far = true := by decide +kernel
theorem ok__law_by_all : prg.okD d__law_by_all = true := by decide +kernel
theorem ok__law_right : prg.okD d__law_right = true := by decide +kernel
theorem ok_law : prg.okD d_law = true := by decide +kernel
theorem okP : prg.okP = true := by decide +kernel
theorem b0_near_slack : BindOk d_near_slack ∧ BindA d_near_slack := bind_none rfl fun _ _ _ _ _ _ us hl => match us, hl with | [_, _], _ => rfl
theorem bn_near_slack : BindOk d_near_slack := b0_near_slack.1
theorem b0_far_slack : BindOk d_far_slack ∧ BindA d_far_slack := bind_none rfl fun _ _ _ _ _ _ us hl => match us, hl with | [_, _], _ => rfl
theorem bn_far_slack : BindOk d_far_slack := b0_far_slack.1
theorem b0_kind_of : BindOk d_kind_of ∧ BindA d_kind_of := bind_none rfl fun _ _ _ _ _ _ us hl => match us, hl with | [_, _], _ => rfl
theorem bn_kind_of : BindOk d_kind_of := b0_kind_of.1
theorem b0_least_apart : BindOk d_least_apart ∧ BindA d_least_apart := bind_none rfl fun _ _ _ _ _ _ us hl => match us, hl with | [_, _], _ => rfl
theorem bn_least_apart : BindOk d_least_apart := b0_least_apart.1
theorem b0_is_integer : BindOk d_is_integer ∧ BindA d_is_integer := bind_none rfl fun _ _ _ _ _ _ us hl => match us, hl with | [_], _ => rfl
theorem bn_is_integer : BindOk d_is_integer := b0_is_integer.1
theorem bn_is_number : BindOk d_is_number := bind_some (by decide) fun j hj => match j, hj with
  | 0, _ => ⟨1, rfl, fun _ _ _ _ _ _ _ us its l1 l2 => match us, l1, its, l2 with | [_], _, [_], _ => ⟨_, rfl, rfl⟩⟩
  | 1, _ => ⟨2, rfl, fun _ _ _ _ _ _ _ us its l1 l2 => match us, l1, its, l2 with | [_, _], _, [_], _ => ⟨_, rfl, rfl⟩⟩
  | j + 2, hj => absurd hj (by simp [d_is_number])
theorem b0_Numbers___init__ : BindOk d_Numbers___init__ ∧ BindA d_Numbers___init__ := bind_none rfl fun _ _ _ _ _ _ us hl => match us, hl with | [_, _, _, _, _, _, _], _ => rfl
theorem bn_Numbers___init__ : BindOk d_Numbers___init__ := b0_Numbers___init__.1
theorem b0__law_heap : BindOk d__law_heap ∧ BindA d__law_heap := bind_none rfl fun _ _ _ _ _ _ us hl => match us, hl with | [_], _ => rfl
theorem bn__law_heap : BindOk d__law_heap := b0__law_heap.1
theorem b0__law_draw : BindOk d__law_draw ∧ BindA d__law_draw := bind_none rfl fun _ _ _ _ _ _ us hl => match us, hl with | [_, _], _ => rfl
theorem bn__law_draw : BindOk d__law_draw := b0__law_draw.1
theorem b0__law_pick : BindOk d__law_pick ∧ BindA d__law_pick := bind_none rfl fun _ _ _ _ _ _ us hl => match us, hl with | [_, _], _ => rfl
theorem bn__law_pick : BindOk d__law_pick := b0__law_pick.1
theorem b0__law_like : BindOk d__law_like ∧ BindA d__law_like := bind_none rfl fun _ _ _ _ _ _ us hl => match us, hl with | [_, _], _ => rfl
theorem bn__law_like : BindOk d__law_like := b0__law_like.1
theorem b0__law_numbers : BindOk d__law_numbers ∧ BindA d__law_numbers := bind_none rfl fun _ _ _ _ _ _ us hl => match us, hl with | [_, _, _], _ => rfl
theorem bn__law_numbers : BindOk d__law_numbers := b0__law_numbers.1
theorem b0__law_kind : BindOk d__law_kind ∧ BindA d__law_kind := bind_none rfl fun _ _ _ _ _ _ us hl => match us, hl with | [_, _], _ => rfl
theorem bn__law_kind : BindOk d__law_kind := b0__law_kind.1
theorem b0__law_apart : BindOk d__law_apart ∧ BindA d__law_apart := bind_none rfl fun _ _ _ _ _ _ us hl => match us, hl with | [_, _], _ => rfl
theorem bn__law_apart : BindOk d__law_apart := b0__law_apart.1
theorem b0__law_lots : BindOk d__law_lots ∧ BindA d__law_lots := bind_none rfl fun _ _ _ _ _ _ us hl => match us, hl with | [_, _], _ => rfl
theorem bn__law_lots : BindOk d__law_lots := b0__law_lots.1
theorem b0__law_near : BindOk d__law_near ∧ BindA d__law_near := bind_none rfl fun _ _ _ _ _ _ us hl => match us, hl with | [_, _], _ => rfl
theorem bn__law_near : BindOk d__law_near := b0__law_near.1
theorem b0__law_far : BindOk d__law_far ∧ BindA d__law_far := bind_none rfl fun _ _ _ _ _ _ us hl => match us, hl with | [_, _, _], _ => rfl
theorem bn__law_far : BindOk d__law_far := b0__law_far.1
theorem b0__law_by_all : BindOk d__law_by_all ∧ BindA d__law_by_all := bind_none rfl fun _ _ _ _ _ _ us hl => match us, hl with | [_, _], _ => rfl
theorem bn__law_by_all : BindOk d__law_by_all := b0__law_by_all.1
theorem b0__law_right : BindOk d__law_right ∧ BindA d__law_right := bind_none rfl fun _ _ _ _ _ _ us hl => match us, hl with | [_, _], _ => rfl
theorem bn__law_right : BindOk d__law_right := b0__law_right.1
theorem b0_law : BindOk d_law ∧ BindA d_law := bind_none rfl fun _ _ _ _ _ _ us hl => match us, hl with | [_], _ => rfl
theorem bn_law : BindOk d_law := b0_law.1
theorem okD : AllP (fun d => prg.okD d = true) prg.defs := ⟨ok_near_slack, ok_far_slack, ok_kind_of, ok_least_apart, ok_is_integer, ok_is_number, ok_Numbers___init__, ok__law_heap, ok__law_draw, ok__law_pick, ok__law_like, ok__law_numbers, ok__law_kind, ok__law_apart, ok__law_lots, ok__law_near, ok__law_far, ok__law_by_all, ok__law_right, ok_law, trivial⟩
theorem bnd : AllP BindOk prg.defs := ⟨bn_near_slack, bn_far_slack, bn_kind_of, bn_least_apart, bn_is_integer, bn_is_number, bn_Numbers___init__, bn__law_heap, bn__law_draw, bn__law_pick, bn__law_like, bn__law_numbers, bn__law_kind, bn__law_apart, bn__law_lots, bn__law_near, bn__law_far, bn__law_by_all, bn__law_right, bn_law, trivial⟩
theorem kb0 : KwBok d_kind_of 0 ["spread", "numbers"] [1, 0] := kw_none rfl fun _ _ _ _ _ _ us ws h1 h2 => match us, h1, ws, h2 with | [], _, [_, _], _ => rfl
theorem kb1 : KwBok d_least_apart 0 ["spread", "numbers"] [1, 0] := kw_none rfl fun _ _ _ _ _ _ us ws h1 h2 => match us, h1, ws, h2 with | [], _, [_, _], _ => rfl
theorem kbd : AllP (fun q : Nat × Nat × List Str × List Nat => ∀ d, prg.defs[q.1]? = some d → KwBok d q.2.1 q.2.2.1 q.2.2.2) prg.kbs := ⟨fun d hd => (Option.some.inj hd : d_kind_of = d) ▸ kb0, fun d hd => (Option.some.inj hd : d_least_apart = d) ▸ kb1, trivial⟩
def loose0 : List Str := ["near_slack", "far_slack", "NEAR", "FAR", "kind_of", "least_apart", "LiarsError", "InvalidNumbers", "is_integer", "is_number", "MOST_COPIES", "MOST_LAG", "Numbers", "_law_heap", "_law_draw", "_law_pick", "_law_like", "_law_numbers", "_law_kind", "_law_apart"]
def loose1 : List Str := ["_law_lots", "_law_near", "_law_far", "_law_by_all", "_law_right"]
def loose : List Str := loose0 ++ loose1
abbrev R : PySem.W.OpenRow := PySem.W.OpenLaw.row PySem.Challenge.rw_liarsapart_k33_whole_how_far_apart
abbrev hk : PySem.W.Hook := prg.hook 5
def ob (s : PySem.W.SharedT) : AlP := prg.obsG 5 (HandSHeadRun.getT s)
theorem ob_eq (s : PySem.W.SharedT) : ob s = hk.obs s.abs := Prg.obsG_eq (HandSHeadRun.getT_eq s)
theorem run (w : World) : HandSHeadRun.RunEq R (PySem.W.view R.prog [31]) hk ob 3000 loose w := by
  intro os
  kernel_rfl

end K33
open PySem PySem.W PySem.Calls PyProof.Rows
theorem PySem.Challenge.cw_liarsapart_k33_whole_how_far_apart_holds : PySem.Challenge.rw_liarsapart_k33_whole_how_far_apart.Holds := by
  w_on; o_law
  refine HandSHeadRun.head_any (r := OpenLaw.row PySem.Challenge.rw_liarsapart_k33_whole_how_far_apart) (q := view (OpenLaw.row PySem.Challenge.rw_liarsapart_k33_whole_how_far_apart).prog [31]) (H := K33.hk) (ob := K33.ob) (M := 3000) (loose := K33.loose) (d := HandSHeadRun.topDef (OpenLaw.row PySem.Challenge.rw_liarsapart_k33_whole_how_far_apart).prog 31) (kwd := []) K33.ob_eq
    (by kernel_rfl) (fun s => by kernel_rfl) K33.run (by kernel_rfl) (by kernel_rfl) (by kernel_rfl) (by rfl) (by first | assumption | decide +kernel) (by decide +kernel) ⟨rfl, rfl, rfl, rfl, rfl, by decide +kernel⟩ ?hw ?hc
  case hw => w_witness2
  case hc => exact Dn.py_walk (l := PySem.Challenge.rw_liarsapart_k33_whole_how_far_apart) (p := K33.prg) (n := 63) (m := 5) (lv := 40) (i := 19) (x := "script") (dd := K33.d_law) rfl (by decide) (by kernel_rfl) ⟨rfl, by decide, by decide⟩ rfl (by kernel_rfl) rfl K33.okP K33.okD K33.bnd K33.kbd K33.b0_law.2 (K33.T_eq ▸ K33.law_true)

