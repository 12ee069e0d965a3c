import PyProof.Rows.All
import Wide.All
import OpenK.AllK
import Wide.FinOn
import HandS.ForMost
import HandS.TupAny
import HandS.TupMul
import HandS.TupLe
import HandS.Zip
import HandS.Walk
import HandS.Wide
import HandS.Gcd
import HandS.Deep
import HandS.Flow
import HandS.Style
import HandS.Text
import HandS.StrMore
import HandS.IsInst
import HandS.Dict
import HandS.RaiseMore
import KE.KNest
import HandS.Base
import HandS.Call
import HandS.List
import HandS.Comp
import HandS.AnyAll
import HandS.GenList
import HandS.Lambda
import HandS.Defaults
import HandS.Ends
import HandS.Words
import HandS.Head0
import HandS.Head1
import HandS.Head2
import HandS.Head3
import HandS.HeadEnd
import HandS.HeadHook1
import HandS.HeadHook2
import HandS.EndBits
import HandS.HeadHook3
import HandS.HeadHook4
import HandS.EndTab
import HandS.HeadWalk
import PySem.Challenge.RW_wordworths_k75_whole_values_as_texts
set_option Elab.async false
set_option linter.all false
set_option maxRecDepth 100000
set_option maxHeartbeats 0
set_option exponentiation.threshold 100000
/-! MP: a part of Python as an evaluator over plain data. -/
namespace MP
open PySem
open PySem.Spec
open PyProof.Rows
open L2

/-! ### values -/
inductive D where
  | non | bl (b : Bool) | int (i : Int) | str (s : List Nat) | tup (l : List D) | lst (l : List D) | ref (n : Nat)
  deriving Inhabited, Repr
mutual
def D.beq : D → D → Bool
  | .non, .non => true
  | .bl a, .bl b => a == b
  | .int a, .int b => a == b
  | .str a, .str b => a == b
  | .tup a, .tup b => D.beqs a b
  | .lst a, .lst b => D.beqs a b
  | .ref a, .ref b => a == b
  | _, _ => false
def D.beqs : List D → List D → Bool
  | [], [] => true
  | a :: r, b :: q => D.beq a b && D.beqs r q
  | _, _ => false
end
mutual
theorem D.beq_iff : ∀ a b : D, D.beq a b = true ↔ a = b
  | .non, b => by cases b <;> simp [D.beq]
  | .bl x, b => by cases b <;> simp [D.beq]
  | .int x, b => by cases b <;> simp [D.beq]
  | .str x, b => by cases b <;> simp [D.beq]
  | .tup x, b => by
    cases b with
    | tup y => simp [D.beq, D.beqs_iff x y]
    | _ => simp [D.beq]
  | .lst x, b => by
    cases b with
    | lst y => simp [D.beq, D.beqs_iff x y]
    | _ => simp [D.beq]
  | .ref x, b => by cases b <;> simp [D.beq]
theorem D.beqs_iff : ∀ a b : List D, D.beqs a b = true ↔ a = b
  | [], b => by cases b <;> simp [D.beqs]
  | x :: r, b => by
    cases b with
    | nil => simp [D.beqs]
    | cons y q => simp [D.beqs, D.beq_iff x y, D.beqs_iff r q]
end
instance : DecidableEq D := fun a b => decidable_of_iff _ (D.beq_iff a b)

/-- the codes of a text -/
def cs (s : String) : List Nat := s.toList.map Char.toNat
theorem cs_inj {a b : String} : cs a = cs b ↔ a = b := by
  constructor
  · intro h
    have h2 : a.toList = b.toList := by
      have : Function.Injective Char.toNat := fun x y e => by
        apply Char.ext
        exact UInt32.toNat_inj.mp e
      exact (List.map_inj_right (fun x y e => this e)).mp h
    exact String.toList_inj.mp h2
  · rintro rfl; rfl

/-- objects that change -/
inductive MO where
  | lst (l : List D)
  deriving Inhabited, Repr, DecidableEq
abbrev Hh := List MO

/-- a name's place -/
inductive Slot where
  | un | v (d : D) | own (l : List D)
  deriving Inhabited, Repr
abbrev Env := List Slot

/-! ### plain rules of values -/
mutual
/-- may be compared as data: no bool, no object, not deep -/
def eqOk : Nat → D → Bool
  | _, .non => true
  | _, .int _ => true
  | _, .str s => s.all fun c => decide (c < 1114112)
  | n + 1, .tup l => eqOks n l
  | n + 1, .lst l => eqOks n l
  | _, _ => false
def eqOks : Nat → List D → Bool
  | _, [] => true
  | n, a :: r => eqOk n a && eqOks n r
end
def most : Nat := 16000000
def bitsMost : Nat := 100000000
def isFlat : D → Bool
  | .non => true
  | .int _ => true
  | .str _ => true
  | _ => false
/-- a list, or an object that is one -/
def asL (h : Hh) : D → Option (List D)
  | .lst l => some l
  | .ref n => match h[n]? with
    | some (.lst l) => some l
    | _ => none
  | _ => none
def cutD {α : Type} (xs : List α) (lo hi : Option Int) : List α := (xs.drop (HT.sIx xs.length 0 lo)).take (HT.sIx xs.length xs.length hi - HT.sIx xs.length 0 lo)
def binD (h : Hh) : Operator → D → D → Option D
  | .Add, .int i, .int j => some (.int (i + j))
  | .Add, .str a, .str b => if a.length + b.length ≤ most then some (.str (a ++ b)) else none
  | .Add, .tup a, .tup b => if a.length + b.length ≤ most then some (.tup (a ++ b)) else none
  | .Add, a, b => (asL h a).bind fun x => (asL h b).bind fun y => if x.length + y.length ≤ most then some (.lst (x ++ y)) else none
  | .Sub, .int i, .int j => some (.int (i - j))
  | .Mult, .int i, .int j => if i.natAbs.log2 + j.natAbs.log2 < bitsMost then some (.int (i * j)) else none
  | .Mult, .tup a, .int j => if 0 ≤ j ∧ j ≤ 1000 ∧ a.length ≤ 1000 then some (.tup (List.replicate j.toNat a).flatten) else none
  | .Mult, .str a, .int j => if 0 ≤ j ∧ j ≤ 1000 ∧ a.length ≤ 1000 then some (.str (List.replicate j.toNat a).flatten) else none
  | .Mult, a, .int j => (asL h a).bind fun x => if 0 ≤ j ∧ j ≤ 1000 ∧ x.length ≤ 1000 then some (.lst (List.replicate j.toNat x).flatten) else none
  | .FloorDiv, .int i, .int j => if j ≠ 0 ∧ Builtin.divisionGoesByPylong i j = false then some (.int (i.fdiv j)) else none
  | .Mod, .int i, .int j => if j ≠ 0 then some (.int (i.fmod j)) else none
  | .Pow, .int i, .int j => if 0 ≤ j ∧ j ≤ 1000000 ∧ i.natAbs < 2 ^ 64 then some (.int (i ^ j.toNat)) else none
  | .LShift, .int i, .int j => if 0 ≤ j ∧ j ≤ 1000000 ∧ i.natAbs < 2 ^ 64 then some (.int (i * 2 ^ j.toNat)) else none
  | .RShift, .int i, .int j => if 0 ≤ j then some (.int (i / 2 ^ j.toNat)) else none
  | .BitAnd, .int i, .int j => some (.int (Builtin.bitAnd i j))
  | _, _, _ => none
def eqD (a b : D) : Option Bool := match a, b with
  | .bl x, .bl y => some (x == y)
  | a, b => if eqOk 60 a && eqOk 60 b then some (decide (a = b)) else none
def inD (h : Hh) (a b : D) : Option Bool := match a, b with
  | .str x, .str y => some (!(Builtin.Str.occurrences ⟨y.toArray⟩ ⟨x.toArray⟩ 0 y.length 1).isEmpty)
  | a, .tup l => if isFlat a && l.all isFlat then some (decide (a ∈ l)) else none
  | a, b => (asL h b).bind fun l => if isFlat a && l.all isFlat then some (decide (a ∈ l)) else none
def cmpD (h : Hh) : CmpOp → D → D → Option Bool
  | .Eq, a, b => eqD a b
  | .NotEq, a, b => (eqD a b).map (! ·)
  | .Lt, .int i, .int j => some (decide (i < j))
  | .LtE, .int i, .int j => some (decide (i ≤ j))
  | .Gt, .int i, .int j => some (decide (j < i))
  | .GtE, .int i, .int j => some (decide (j ≤ i))
  | .Is, a, .non => some (decide (a = .non))
  | .IsNot, a, .non => some (decide (a ≠ .non))
  | .Is, .bl a, .bl b => some (decide (a = b))
  | .IsNot, .bl a, .bl b => some (decide (a ≠ b))
  | .In, a, b => inD h a b
  | .NotIn, a, b => (inD h a b).map (! ·)
  | _, _, _ => none
def idxD (h : Hh) : D → D → Option D
  | .tup l, .int i => atI l i
  | .str s, .int i => if s.length ≤ most then (atI s i).map fun c => .str [c] else none
  | a, .int i => (asL h a).bind fun l => atI l i
  | _, _ => none
def slcD (h : Hh) (a : D) (lo hi : Option Int) : Option D := match a with
  | .tup l => some (.tup (cutD l lo hi))
  | .str s => if s.length ≤ most then some (.str (cutD s lo hi)) else none
  | a => (asL h a).map fun l => .lst (cutD l lo hi)
/-- built-in functions by name -/
inductive Pr where
  | len | abs | max2 | min2 | tuple | list | int | gcd | sum | all | any | str
  deriving DecidableEq, Repr
def intsOf : List D → Option (List Int)
  | [] => some []
  | .int i :: r => (intsOf r).map (i :: ·)
  | _ => none
def strsOf : List D → Option (List (List Nat))
  | [] => some []
  | .str i :: r => (strsOf r).map (i :: ·)
  | _ => none
def blsOf : List D → Option (List Bool)
  | [] => some []
  | .bl i :: r => (blsOf r).map (i :: ·)
  | _ => none
def prD (h : Hh) : Pr → List D → Option D
  | .len, [.str s] => if s.length ≤ most then some (.int s.length) else none
  | .len, [.tup l] => some (.int l.length)
  | .len, [a] => (asL h a).map fun l => .int l.length
  | .abs, [.int i] => some (.int (if i < 0 then -i else i))
  | .max2, [.int i, .int j] => some (.int (if j > i then j else i))
  | .min2, [.int i, .int j] => some (.int (if j < i then j else i))
  | .tuple, [.tup l] => some (.tup l)
  | .tuple, [.str s] => if s.length ≤ most then some (.tup (s.map fun z => .str [z])) else none
  | .tuple, [a] => (asL h a).map .tup
  | .list, [.tup l] => some (.lst l)
  | .list, [a] => (asL h a).map .lst
  | .int, [.int i] => some (.int i)
  | .int, [.bl b] => some (.int (if b then 1 else 0))
  | .int, [.str s] => if (s.all fun c => decide (48 ≤ c ∧ c ≤ 57)) = true ∧ s ≠ [] ∧ s.length ≤ 640 then some (.int (NumText.digitsVal s : Nat)) else none
  | .str, [.int i] => if i.natAbs.log2 < 1920 then some (.str (cs (toString i))) else none
  | .str, [.str s] => some (.str s)
  | .gcd, [.int i, .int j] => some (.int (Nat.gcd i.natAbs j.natAbs : Nat))
  | .sum, [a] => (asL h a).bind fun l => (intsOf l).map fun ns => .int ns.sum
  | .all, [a] => (asL h a).bind fun l => (blsOf l).map fun ns => .bl (ns.all id)
  | .any, [a] => (asL h a).bind fun l => (blsOf l).map fun ns => .bl (ns.any id)
  | _, _ => none
/-- truth -/
def truD (h : Hh) : D → Option Bool
  | .non => some false
  | .bl b => some b
  | .int i => some (i != 0)
  | .str s => if s.length ≤ most then some (s.length != 0) else none
  | .tup l => some (!l.isEmpty)
  | a => (asL h a).map fun l => !l.isEmpty

/-- types by name -/
inductive Ty where
  | int | bool | str | tuple | list
  deriving DecidableEq, Repr
def isiD (h : Hh) (t : Ty) : D → Option Bool
  | .non => some false
  | .bl _ => some (decide (t = .bool ∨ t = .int))
  | .int _ => some (decide (t = .int))
  | .str _ => some (decide (t = .str))
  | .tup _ => some (decide (t = .tuple))
  | d => (asL h d).map fun _ => decide (t = .list)

/-! ### syntax -/
mutual
inductive E where
  | var (i : Nat) | own (i : Nat) | gl (x : Str) (d : D) | lit (d : D)
  | tup (es : Es) | lst (es : Es)
  | bin (o : Operator) (a b : E) | neg (a : E) | cmp (o : CmpOp) (a b : E)
  | chain (o o' : CmpOp) (a b c : E)
  | bop (isAnd : Bool) (es : Es) | no (a : E) | tru (a : E)
  | ite (c a b : E)
  | idx (a b : E) | slc (a : E) (lo hi : Oe)
  | call (f : Str) (es : Es) | bad
  | pr (p : Pr) (es : Es)
  | comp (vs : List Nat) (elt : E) (t : T) (src : Src) (ifs : Oe)
  | pop0 (a : E) (k : E)
  | new (a : E) | isi (a : E) (t : Ty)
  | gen (k : Bool) (vs : List Nat) (elt : E) (t : T) (src : Src) (ifs : Oe)
  | join (a b : E) | lstr (a b : E) | dget (kv : List (List Nat × List Nat)) (a : E) | popl (a : E) | isi2 (a : E) (t u : Ty)
inductive Es where
  | nil | cons (a : E) (r : Es)
inductive Oe where
  | no | so (a : E)
inductive T where
  | nm (i : Nat) | tp (ts : Ts)
inductive Ts where
  | nil | cons (a : T) (r : Ts)
inductive Src where
  | of (a : E) | rg1 (a : E) | rg2 (a b : E) | enum (a : E) | zip (a b : E)
end
mutual
inductive S where
  | set (i : Nat) (e : E) | seto (i : Nat) (e : E) | setr (i : Nat) (e : E)
  | asg (t : T) (e : E) | par2 (i j : Nat) (a b : E) | par3 (i j k : Nat) (a b c : E) | bad
  | app (i : Nat) (e : E) | appr (a e : E)
  | seti (i : Nat) (k e : E) | setir (a k e : E)
  | exp (e : E) | ret (e : E) | reto (i : Nat) | retn | brk | cnt | pass
  | ifs (c : E) (a b : Ss) | forr (t : T) (src : Src) (b : Ss) | while (c : E) (b : Ss)
  | frz (i : Nat)
inductive Ss where
  | nil | cons (a : S) (r : Ss)
end

/-! ### evaluation -/
mutual
def asgT : T → D → Env → Option Env
  | .nm i, d, s => if i < s.length then some (s.set i (.v d)) else none
  | .tp ts, .tup ds, s => asgTs ts ds s
  | _, _, _ => none
def asgTs : Ts → List D → Env → Option Env
  | .nil, [], s => some s
  | .cons t r, d :: ds, s => (asgT t d s).bind fun s' => asgTs r ds s'
  | _, _, _ => none
end
def wipeE (s : Env) : List Nat → Env
  | [] => s
  | v :: vs => (wipeE s vs).set v .un
def compL (tg : D → Env → Option Env) (tst : Env → Hh → Option (Bool × Hh)) (elt : Env → Hh → Option (D × Hh)) (s : Env) : List D → Hh → Option (List D × Hh)
  | [], h => some ([], h)
  | d :: r, h => (tg d s).bind fun s1 => (tst s1 h).bind fun p => match p.1 with
    | true => (elt s1 p.2).bind fun q => (compL tg tst elt s r q.2).bind fun z => if z.1.length < most then some (q.1 :: z.1, z.2) else none
    | false => compL tg tst elt s r p.2
def isB : D → Option Bool
  | .bl b => some b
  | _ => none
def isI : D → Option Int
  | .int b => some b
  | _ => none
/-- all (k), any (not k) -/
def allL (k : Bool) (tg : D → Env → Option Env) (tst : Env → Hh → Option (Bool × Hh)) (elt : Env → Hh → Option (D × Hh)) (s : Env) : List D → Hh → Option (Bool × Hh)
  | [], h => some (k, h)
  | d :: r, h => (tg d s).bind fun s1 => (tst s1 h).bind fun p => match p.1 with
    | true => (elt s1 p.2).bind fun q => (isB q.1).bind fun b => if b = k then allL k tg tst elt s r q.2 else some (b, q.2)
    | false => allL k tg tst elt s r p.2
def rgD (lo hi : Int) : List D := (List.range (hi - lo).toNat).map fun i => .int (lo + (i : Nat))
def rgOk (i : Int) : Bool := decide (-(2 ^ 62) ≤ i ∧ i < 2 ^ 62)
def seqD (h : Hh) : D → Option (List D)
  | .tup l => some l
  | a => asL h a
structure Cfg where
  call : Str → List D → Hh → Option (D × Hh)
  fuel : Nat
mutual
/-- no object within -/
def noRef : D → Bool
  | .ref _ => false
  | .tup l => noRefs l
  | .lst l => noRefs l
  | _ => true
def noRefs : List D → Bool
  | [] => true
  | a :: r => noRef a && noRefs r
end
def litOk : D → Bool
  | .non => true
  | .bl _ => true
  | .int _ => true
  | .str _ => true
  | _ => false
mutual
def evE (c : Cfg) : E → Env → Hh → Option (D × Hh)
  | .var i, s, h => match s[i]? with
    | some (.v d) => some (d, h)
    | _ => none
  | .own i, s, h => match s[i]? with
    | some (.own l) => some (.lst l, h)
    | _ => none
  | .gl _ d, _, h => some (d, h)
  | .lit d, _, h => some (d, h)
  | .tup es, s, h => (evEs c es s h).bind fun p => if p.1.length ≤ most then some (.tup p.1, p.2) else none
  | .lst es, s, h => (evEs c es s h).bind fun p => if p.1.length ≤ most then some (.lst p.1, p.2) else none
  | .bin o a b, s, h => (evE c a s h).bind fun p => (evE c b s p.2).bind fun q => (binD q.2 o p.1 q.1).map fun r => (r, q.2)
  | .neg a, s, h => (evE c a s h).bind fun p => (isI p.1).map fun i => (.int (-i), p.2)
  | .cmp o a b, s, h => (evE c a s h).bind fun p => (evE c b s p.2).bind fun q => (cmpD q.2 o p.1 q.1).map fun r => (.bl r, q.2)
  | .chain o o' a b d, s, h => (evE c a s h).bind fun p => (evE c b s p.2).bind fun q => (cmpD q.2 o p.1 q.1).bind fun r => match r with
    | true => (evE c d s q.2).bind fun z => (cmpD z.2 o' q.1 z.1).map fun r => (.bl r, z.2)
    | false => some (.bl false, q.2)
  | .bop k es, s, h => evB c k es s h
  | .no a, s, h => (evE c a s h).bind fun p => (isB p.1).map fun b => (.bl (!b), p.2)
  | .tru a, s, h => (evE c a s h).bind fun p => (truD p.2 p.1).map fun b => (.bl b, p.2)
  | .ite k a b, s, h => (evE c k s h).bind fun p => (isB p.1).bind fun r => match r with
    | true => evE c a s p.2
    | false => evE c b s p.2
  | .idx a b, s, h => (evE c a s h).bind fun p => (evE c b s p.2).bind fun q => (idxD q.2 p.1 q.1).map fun r => (r, q.2)
  | .slc a lo hi, s, h => (evE c a s h).bind fun p => (evO c lo s p.2).bind fun q => (evO c hi s q.2).bind fun r => (slcD r.2 p.1 q.1 r.1).map fun x => (x, r.2)
  | .call f es, s, h => (evEs c es s h).bind fun p => c.call f p.1 p.2
  | .bad, _, _ => none
  | .pr k es, s, h => (evEs c es s h).bind fun p => (prD p.2 k p.1).map fun r => (r, p.2)
  | .comp vs elt t src ifs, s, h => (evSrc c src s h).bind fun p =>
      (compL (asgT t) (fun s h => evIf c ifs s h) (fun s h => evE c elt s h) (wipeE s vs) p.1 p.2).map fun q => (.lst q.1, q.2)
  | .pop0 a k, s, h => (evE c a s h).bind fun p => (evE c k s p.2).bind fun q => match p.1, q.1 with
    | .ref n, .int i => match q.2[n]? with
      | some (.lst l) => (seqIndex? i l.length).bind fun j => (l[j]?).bind fun d => if -(2 ^ 63) ≤ i ∧ i < 2 ^ 63 then some (d, q.2.set n (.lst (l.eraseIdx j))) else none
      | _ => none
    | _, _ => none
  | .new a, s, h => (evE c a s h).bind fun p => match p.1 with
    | .lst l => some (.ref p.2.length, p.2 ++ [.lst l])
    | _ => none
  | .isi a t, s, h => (evE c a s h).bind fun p => (isiD p.2 t p.1).map fun b => (.bl b, p.2)
  | .gen k vs elt t src ifs, s, h => (evSrc c src s h).bind fun p =>
      (allL k (asgT t) (fun s h => evIf c ifs s h) (fun s h => evE c elt s h) (wipeE s vs) p.1 p.2).map fun q => (.bl q.1, q.2)
  | .join a b, s, h => (evE c a s h).bind fun p => (evE c b s p.2).bind fun q => match p.1 with
    | .str x => (asL q.2 q.1).bind fun l => (strsOf l).bind fun ls => if (ls.map (·.length)).sum + ls.length * x.length ≤ most then some (.str (TL.joinL x ls), q.2) else none
    | _ => none
  | .lstr a b, s, h => (evE c a s h).bind fun p => (evE c b s p.2).bind fun q => match p.1, q.1 with
    | .str x, .str y => if x.length ≤ most then some (.str (x.dropWhile fun z => decide (z ∈ y)), q.2) else none
    | _, _ => none
  | .dget kv a, s, h => (evE c a s h).bind fun p => match p.1 with
    | .str x => some (match kv.find? (fun z => decide (z.1 = x)) with | some z => .str z.2 | none => .non, p.2)
    | _ => none
  | .popl a, s, h => (evE c a s h).bind fun p => match p.1 with
    | .ref n => match p.2[n]? with
      | some (.lst l) => (l[l.length - 1]?).map fun d => (d, p.2.set n (.lst l.dropLast))
      | _ => none
    | _ => none
  | .isi2 a t u, s, h => (evE c a s h).bind fun p => (isiD p.2 t p.1).bind fun b => (isiD p.2 u p.1).map fun b' => (.bl (b || b'), p.2)
def evEs (c : Cfg) : Es → Env → Hh → Option (List D × Hh)
  | .nil, _, h => some ([], h)
  | .cons a r, s, h => (evE c a s h).bind fun p => (evEs c r s p.2).map fun q => (p.1 :: q.1, q.2)
/-- and, or: all but the last are bools -/
def evB (c : Cfg) : Bool → Es → Env → Hh → Option (D × Hh)
  | _, .nil, _, _ => none
  | _, .cons a .nil, s, h => evE c a s h
  | k, .cons a (.cons b r), s, h => (evE c a s h).bind fun p => (isB p.1).bind fun x => if x = k then evB c k (.cons b r) s p.2 else some (.bl x, p.2)
def evO (c : Cfg) : Oe → Env → Hh → Option (Option Int × Hh)
  | .no, _, h => some (none, h)
  | .so a, s, h => (evE c a s h).bind fun p => (isI p.1).map fun i => (some i, p.2)
def evIf (c : Cfg) : Oe → Env → Hh → Option (Bool × Hh)
  | .no, _, h => some (true, h)
  | .so a, s, h => (evE c a s h).bind fun p => (isB p.1).map fun b => (b, p.2)
def evSrc (c : Cfg) : Src → Env → Hh → Option (List D × Hh)
  | .of a, s, h => (evE c a s h).bind fun p => match p.1 with
    | .tup l => some (l, p.2)
    | .lst l => some (l, p.2)
    | .str x => some (x.map fun z => .str [z], p.2)
    | _ => none
  | .rg1 a, s, h => (evE c a s h).bind fun p => (isI p.1).bind fun i => if rgOk i then some (rgD 0 i, p.2) else none
  | .rg2 a b, s, h => (evE c a s h).bind fun p => (evE c b s p.2).bind fun q => (isI p.1).bind fun i => (isI q.1).bind fun j => if rgOk i && rgOk j then some (rgD i j, q.2) else none
  | .enum a, s, h => (evE c a s h).bind fun p => match p.1 with
    | .lst l => some (l.zipIdx.map fun x => .tup [.int x.2, x.1], p.2)
    | .str x => some (x.zipIdx.map fun x => .tup [.int x.2, .str [x.1]], p.2)
    | _ => none
  | .zip a b, s, h => (evE c a s h).bind fun p => (evE c b s p.2).bind fun q => match p.1, q.1 with
    | .tup l, .tup m => some ((l.zip m).map fun x => .tup [x.1, x.2], q.2)
    | .lst l, .lst m => some ((l.zip m).map fun x => .tup [x.1, x.2], q.2)
    | _, _ => none
end
inductive Fl where
  | nx (s : Env) | rt (d : D) | bk (s : Env) | ct (s : Env)
def forL (tg : D → Env → Option Env) (body : Env → Hh → Option (Fl × Hh)) : List D → Env → Hh → Option (Fl × Hh)
  | [], s, h => some (.nx s, h)
  | d :: r, s, h => (tg d s).bind fun s1 => (body s1 h).bind fun p => match p.1 with
    | .nx s2 => forL tg body r s2 p.2
    | .ct s2 => forL tg body r s2 p.2
    | .bk s2 => some (.nx s2, p.2)
    | .rt d => some (.rt d, p.2)
def whileL (tst : Env → Hh → Option (Bool × Hh)) (body : Env → Hh → Option (Fl × Hh)) : Nat → Env → Hh → Option (Fl × Hh)
  | 0, _, _ => none
  | n + 1, s, h => (tst s h).bind fun q => match q.1 with
    | false => some (.nx s, q.2)
    | true => (body s q.2).bind fun p => match p.1 with
      | .nx s2 => whileL tst body n s2 p.2
      | .ct s2 => whileL tst body n s2 p.2
      | .bk s2 => some (.nx s2, p.2)
      | .rt d => some (.rt d, p.2)
def evTst (c : Cfg) (e : E) (s : Env) (h : Hh) : Option (Bool × Hh) := (evE c e s h).bind fun p => (isB p.1).map fun b => (b, p.2)
mutual
def evS (c : Cfg) : S → Env → Hh → Option (Fl × Hh)
  | .set i e, s, h => (evE c e s h).bind fun p => if i < s.length then some (.nx (s.set i (.v p.1)), p.2) else none
  | .seto i e, s, h => (evE c e s h).bind fun p => match p.1 with
    | .lst l => if i < s.length then some (.nx (s.set i (.own l)), p.2) else none
    | _ => none
  | .setr i e, s, h => (evE c e s h).bind fun p => match p.1 with
    | .lst l => if i < s.length then some (.nx (s.set i (.v (.ref p.2.length))), p.2 ++ [.lst l]) else none
    | _ => none
  | .asg t e, s, h => (evE c e s h).bind fun p => (asgT t p.1 s).map fun s' => (.nx s', p.2)
  | .par2 i j a b, s, h => (evE c a s h).bind fun p => (evE c b s p.2).bind fun q => if i < s.length ∧ j < s.length then some (.nx ((s.set i (.v p.1)).set j (.v q.1)), q.2) else none
  | .par3 i j k a b d, s, h => (evE c a s h).bind fun p => (evE c b s p.2).bind fun q => (evE c d s q.2).bind fun r => if i < s.length ∧ j < s.length ∧ k < s.length then some (.nx (((s.set i (.v p.1)).set j (.v q.1)).set k (.v r.1)), r.2) else none
  | .bad, _, _ => none
  | .app i e, s, h => (evE c e s h).bind fun p => match s[i]? with
    | some (.own l) => if l.length < most then some (.nx (s.set i (.own (l ++ [p.1]))), p.2) else none
    | _ => none
  | .appr a e, s, h => (evE c a s h).bind fun p => (evE c e s p.2).bind fun q => match p.1 with
    | .ref n => match q.2[n]? with
      | some (.lst l) => if l.length < most then some (.nx s, q.2.set n (.lst (l ++ [q.1]))) else none
      | _ => none
    | _ => none
  | .seti i k e, s, h => (evE c e s h).bind fun p => (evE c k s p.2).bind fun q => match s[i]?, q.1 with
    | some (.own l), .int x => (ixN l.length x).map fun j => (.nx (s.set i (.own (l.set j p.1))), q.2)
    | _, _ => none
  | .setir a k e, s, h => (evE c e s h).bind fun p => (evE c a s p.2).bind fun r => (evE c k s r.2).bind fun q => match r.1, q.1 with
    | .ref n, .int x => match q.2[n]? with
      | some (.lst l) => (ixN l.length x).map fun j => (.nx s, q.2.set n (.lst (l.set j p.1)))
      | _ => none
    | _, _ => none
  | .exp e, s, h => (evE c e s h).map fun p => (.nx s, p.2)
  | .ret e, s, h => (evE c e s h).map fun p => (.rt p.1, p.2)
  | .reto i, s, h => match s[i]? with
    | some (.own l) => some (.rt (.lst l), h)
    | _ => none
  | .retn, _, h => some (.rt .non, h)
  | .brk, s, h => some (.bk s, h)
  | .cnt, s, h => some (.ct s, h)
  | .pass, s, h => some (.nx s, h)
  | .ifs k a b, s, h => (evTst c k s h).bind fun p => match p.1 with
    | true => evSs c a s p.2
    | false => evSs c b s p.2
  | .forr t src b, s, h => (evSrc c src s h).bind fun p => forL (asgT t) (fun s h => evSs c b s h) p.1 s p.2
  | .while k b, s, h => whileL (fun s h => evTst c k s h) (fun s h => evSs c b s h) c.fuel s h
  | .frz i, s, h => match s[i]? with
    | some (.own l) => some (.nx (s.set i (.v (.lst l))), h)
    | _ => none
def evSs (c : Cfg) : Ss → Env → Hh → Option (Fl × Hh)
  | .nil, s, h => some (.nx s, h)
  | .cons a r, s, h => (evS c a s h).bind fun p => match p.1 with
    | .nx s' => evSs c r s' p.2
    | fl => some (fl, p.2)
end

structure Fn where
  name : Str
  N : List Str
  ps : Nat
  body : Ss
structure Prog where
  fns : List Fn
  globs : List (Str × D)
  free : List Str
def startE (f : Fn) (args : List D) : Env := args.map .v ++ List.replicate (f.N.length - args.length) .un
def retOf : Fl × Hh → Option (D × Hh)
  | (.rt d, h) => some (d, h)
  | (.nx _, h) => some (.non, h)
  | _ => none
def Prog.get (P : Prog) (f : Str) : Option Fn := P.fns.find? fun g => decide (g.name = f)
def run (P : Prog) (fuel : Nat) : Nat → Str → List D → Hh → Option (D × Hh)
  | 0, _, _, _ => none
  | n + 1, f, args, h => match P.get f with
    | none => none
    | some fn => if args.length = fn.ps then (evSs ⟨run P fuel n, fuel⟩ fn.body (startE fn args) h).bind retOf else none
end MP

/-! MP: rules about texts that the kit has not: tuple(text), text * int, enumerate(text). The proofs follow PyProof.TupleOfGen, HandS.Iter (enumerate of a list). -/
namespace MP
open PySem
open PySem.Spec
open PyProof.Rows
open L2
open Sem (wp)
section
variable {prog : Program} {w : World} {A : Around} {E
                                                            : Value → Shared → Prop} {s : Shared}
theorem code_tuple_new_str {Q₁ : Value → Shared → Prop} (hh : A.handled = none) (x : Str) (t : Tok)
    (h : ∀ (s' : Shared) (acc : Array Value), (∀ b o, s.heap.get? b = some o → s'.heap.get? b = some o) → s'.gens = s.gens → s'.drawn = s.drawn → s'.os = s.os → ItemsOf (SignAt x) acc x.cps.size →
      Q₁ (.ref s'.heap.objs.size) { s' with heap := s'.heap.push { cls := .type "tuple", data := .seq acc } }) (hsz : x.cps.size ≤ sizeLine) :
    codeAny (model prog w) A (.call (.builtin "tuple.__new__") ⟨[.type "tuple", .str x t], []⟩) (wants Q₁ E) s := by
  refine codeAny_of_tree ?_
  show wpAny _ A.in1 (do checkBuiltinCall "tuple.__new__" ⟨[.type "tuple", .str x t], []⟩; again (.builtin "tuple.__new__" ⟨[.type "tuple", .str x t], []⟩)) _ _ s
  refine wpAny_bind (wpAny_of_eq (F.newCall_tuple_1 _) (wpAny_pure ⟨plainId_quiet
                                                              F.plain_tuple_new _, codeAny_builtin F.entry_tuple_new ?_⟩))
  rw [Around.under_plainId
                                                              F.plain_tuple_new _]
  have hsub := sub_tuple_self
  have hinit
                                                              := init_tuple_lookup
  have hmh := madeHere_tuple
  have hT : s.TypeIs (.str x
                                                              t) "str" := rfl
  have hC : ∀ (Q : List Value → Shared → Prop) (E : Value → Shared → Prop), (∀ (s' : Shared) (acc : Array Value), (∀ b o, s.heap.get? b = some o → s'.heap.get? b = some o) → s'.gens = s.gens → s'.drawn = s.drawn → s'.os = s.os → ItemsOf (SignAt x) acc x.cps.size → Q acc.toList s') →
    wpAny (model prog w) A.in1 (collect (.str x t)) Q E s := fun Q E h => wpAny_collect_str (A := A.in1) (hn := hsz) hh x t h
  generalize Value.str x t = v at hT hC ⊢
  wp_walk using wpAny_typeOf hT, hC _ _
  intro s' acc k1 k2 k3 k4 hacc
  show wpAny _ _ (Builtin.Tuple.tupleExact acc.toList.toArray >>= fun
                                                              v => ret v) _ _ _
  unfold
                                                              Builtin.Tuple.tupleExact
  refine wpAny_bind (wpAny_newObj_type ?_ (by show acc.toList.toArray.size ≤ sizeLine;
                                                              simp only [Array.toArray_toList]; rw [hacc.1]; exact hsz))
  refine wpAny_pure ?_
  have e : acc.toList.toArray = acc
                                                              := by simp
  rw [e]
  exact h s' acc k1 k2 k3 k4 hacc
theorem tuple_of_str {Q : Value → Shared → Prop} (hh : A.handled = none) (x : Str) (t : Tok)
    (hQ : ∀ (s' : Shared) (acc : Array Value), (∀ b o, s.heap.get? b = some o → s'.heap.get? b = some o) → s'.gens = s.gens → s'.drawn = s.drawn → s'.os = s.os → ItemsOf (SignAt x) acc x.cps.size →
      Q (.ref s'.heap.objs.size) { s' with heap := s'.heap.push { cls := .type "tuple", data := .seq acc } }) (hsz : x.cps.size ≤ sizeLine) :
    wpAny (model prog w) A (call (.type "tuple") [.str
                                                                x t]) Q E s := by
  refine callType_codes (Q₁ := fun obj s₁ => s₁.TypeIs obj
                                                              "tuple" ∧ Q obj s₁) F.called_tuple (F.typeCall_tuple_1 _) F.entry_object_init
    (code_tuple_new_str (A := A.in1) hh x t (fun s' acc k1 k2 k3 k4 hacc => ⟨⟨_, Heap.get?_push_size _ rfl, rfl⟩, hQ s' acc k1 k2 k3 k4 hacc⟩) hsz) fun obj s₁ h₁ => ?_
  exact ⟨h₁.1, F.args_object_init_2 obj _, object_init_meets F.called_tuple.init.lookup F.called_tuple.made (by decide)
                                                              prog w A.in1 _ s₁ ⟨h₁.1, rfl, h₁.2⟩⟩
end
theorem vals_signs {x : Str} {l : List Value} : ∀ {cs : List Nat} {k : Nat}, (∀ j, x.cps[k + j]? = cs[j]?) → l.length = cs.length → (∀ j v, l[j]? = some v → SignAt x (k + j) v) → Vals (cs.map fun c => V.str ⟨#[c]⟩) l := by
  induction l with
  | nil =>
    intro cs k _ h _
    cases cs with
    | nil => exact .nil
    | cons => cases h
  | cons v l ih =>
    intro cs k hx h q
    cases cs with
    | nil => cases h
    | cons c cs =>
      obtain ⟨c', u, e1, e2⟩ := q 0 v rfl
      have e3 := hx 0
      rw [Nat.add_zero] at e1 e3
      rw [e3] at e1
      cases e1
      subst e2
      refine .cons ⟨u, rfl⟩ (ih (k := k + 1) (fun j => ?_) (by simpa using h) fun j v e => ?_)
      · have := hx (j + 1)
        rw [show k + 1 + j = k + (j + 1) by omega]
        exact this
      · have := q (j + 1) v e
        rw [show k + 1 + j = k + (j + 1) by omega]
        exact this
section
variable {X : Cx}
theorem call_tuple_str (hc : X.calm = true) : CallR X (.type "tuple") (fun xs H Q => ∃ x : Str, xs = [.str x] ∧ x.length ≤ sizeLine ∧ ∀ l, H l = none → Q (.ref l) (upd H l (.tup (x.cps.toList.map fun c => V.str ⟨#[c]⟩)))) := by
  intro pins s σ H xs
                                                              us Q I r h
  obtain ⟨x, rfl, hl, q⟩ := h
  obtain ⟨u, rfl, t, rfl⟩
                                                              := vals1 r
  refine tuple_of_str (I.ok.hd hc) x t (fun s' acc k1 k2 k3 k4 hacc => ?_) hl
  obtain ⟨h', g', d', t',
                                                              o'⟩ := s'
  simp only at k1 k2 k3 k4
  subst k2 k3 k4
  have I1 : Inv X pins σ H { s with heap := h', toks := t' } := I.kept (t' := t') k1
  have rv : Vals (x.cps.toList.map fun c => V.str ⟨#[c]⟩) acc.toList := vals_signs (x := x) (k := 0) (fun j => by simp) (by simp [hacc.1]) fun j v e => by
    rw [Nat.zero_add]; exact hacc.2 j v (by simpa using e)
  have I2 : Inv X pins σ (upd H h'.objs.size (.tup (x.cps.toList.map fun c => V.str ⟨#[c]⟩))) { s with heap := h'.push { cls := .type "tuple", data := .seq acc }, toks := t' } :=
    I1.laid (t' := t') (fun b o e => Heap.get?_push_of_some _ e) (Nat.le_refl _) (show ObjOk X.prog X.w _ _ _ (.tup (x.cps.toList.map fun c => V.str ⟨#[c]⟩)) from
      ⟨by rw [List.length_map, Array.length_toList]; exact hl, acc.toList, rv, IsTup.new _ _⟩)
  exact ⟨.ref h'.objs.size, _, I2, rfl,
                                                              q _ (I1.hok.fresh (Nat.le_refl _))⟩
theorem mul_cps (x : Str) : ∀ (n : Nat), (List.replicate n x.cps).foldl (· ++ ·) #[] = (List.replicate n x.cps.toList).flatten.toArray := fun n => by
  have key : ∀ (n : Nat) (acc : Array Nat), (List.replicate n x.cps).foldl (· ++ ·) acc = acc ++ (List.replicate n x.cps.toList).flatten.toArray := fun n => by
    induction n with
    | zero => intro acc; simp
    | succ n ih =>
      intro acc
      rw [List.replicate_succ, List.foldl_cons, ih, List.replicate_succ, List.flatten_cons]
      apply Array.toList_inj.mp
      simp
  rw [key]; simp
/-- text * int -/
theorem op_mulS : OpR X (binaryOp .Mult) (fun a b H Q => ∃ (x : Str) (k : Int), a = .str x ∧ b = .int k ∧ 0 ≤ k ∧ k ≤ 1000 ∧ x.length ≤ 1000 ∧ Q (.str ⟨(List.replicate k.toNat x.cps.toList).flatten.toArray⟩) H) := by
  intro pins s σ H a b v u Q I ra rb h
  obtain ⟨x, k, rfl, rfl, h0, h1, h2, q⟩ := h
  obtain ⟨t, rfl⟩ := ra
  obtain ⟨t', rfl⟩ := rb
  have hx : x.length * k.toNat ≤ 1000000 := Nat.le_trans (Nat.mul_le_mul h2 (Int.toNat_le.mpr h1 : k.toNat ≤ 1000)) (by decide)
  have ok : MulOk x k := by
    refine ⟨?_, fun h3 h4 => ?_, fun h3 h4 => ?_⟩
    · rw [decide_eq_false (by omega), decide_eq_false (by omega)]; rfl
    · have hk : (0 : Int) < k := by omega
      have e1 : (1000 : Int) ≤ (2 ^ 63 - 1) / k := (Int.le_ediv_iff_mul_le hk).mpr (by omega)
      omega
    · unfold Builtin.Str.tooLong
      have e : sizeLine = 16777216 := sizeLine_eq
      exact decide_eq_false
                                                                  (by omega)
  refine SB.mul ok fun t2 k2 => ?_
  have e : Txt.mul x k = ⟨(List.replicate k.toNat x.cps.toList).flatten.toArray⟩ := by
    unfold Txt.mul
    split
    · rename_i h3
      have : k = 0 := by omega
      subst this
      rfl
    · split
      · rename_i h3 h4
        rw [Bool.or_eq_true] at h4
        rcases h4 with h4 | h4
        · have : k = 1 := eq_of_beq h4
          subst this
          cases x
          simp
        · have h5 : x.cps.size = 0 := eq_of_beq h4
          have h6 : x.cps.toList = [] := List.eq_nil_of_length_eq_zero (by simpa using h5)
          cases x
          rename_i c
          simp only at h6
          have h7 : c = #[] := Array.toList_inj.mp h6
          subst h7
          simp
      · rw [mul_cps]
  rw [e]
  exact ⟨.str _, H, I.tok k2, ⟨t2, rfl⟩, q⟩
/-- the signs of a text, each in a new pair -/
def Ites (x : Str) : It :=
  ⟨fun i _ => i < x.cps.size, fun i H v H' => ∃ T c, v = .ref T ∧ H T = none ∧ H' = upd H T (.tup [.int (i : Nat), .str ⟨#[c]⟩]) ∧ x.cps[i]? = some c, fun i _ => i = x.cps.size⟩
theorem draws_str {P : Program} {w : World} {A : Around} (hh : A.handled = none) (it : Addr) (x : Str) (t : Tok) : Draws P w A it [it] x.cps.size (SignAt x) (fun i h => h.IsStrIter it (strIterType x) x t i) := by
  unfold strIterType
  split
  · exact Draws.strAscii hh it x t
  · exact Draws.strWide hh it x t
theorem turn_enum_str {P : Program} {w : World} {K : PySem.W.Frag} {elts : List Expr} {kk : Nat} {tpos : Pos} (x : Str) (t : Tok) (e it : Addr) :
    Turn P w K (.Tuple elts kk tpos) (Ites x) [e, it] e (fun i h => (∃ old, IsEnum h e it ((i : Nat) : Int) old) ∧ h.IsStrIter it (strIterType x) x t i ∧ e ≠ it) where
  mem := by simp
  obj := fun i h st b hb => by
    obtain ⟨⟨old, he⟩, ⟨o, ho, hc,
                                                                hd⟩, _⟩ := st
    have e' : b = e ∨ b =
                                                                it := by simpa using hb
    rcases e' with z | z
    · rw [z]; exact ⟨_, he, fun
                                                                v q => nomatch q⟩
    · rw [z]; exact ⟨o, ho, fun v q =>
                                                                by rw [hd] at q; cases q⟩
  keep := fun i h h' st k => let ⟨⟨old, he⟩, ⟨o, ho, r⟩, hne⟩ := st; ⟨⟨old, k e (by simp) _ he⟩, ⟨o, k it (by simp) o ho, r⟩, hne⟩
  item := by
    intro X hP hw hK hc i pins s
                                                                σ H E I hf st hg
    subst hP hw hK
    obtain ⟨⟨old, he⟩, hit,
                                                                hne⟩ := st
    have hel : e < s.heap.objs.size
                                                                := Heap.lt_size he
    have hil : it < s.heap.objs.size := by obtain ⟨_,
                                                                q, _⟩ := hit; exact Heap.lt_size q
    have hef : e ∉ [it] := fun z => hne (List.mem_singleton.mp z)
    refine wpAny_pyNext_enum_itemD (draws_str (P := X.prog) (w := X.w) (A := X.A.in1) (I.ok.hd hc) it x t) he hit hg hne hef fun y h' tk hP ho hit' hT hsz hk => ?_
    obtain ⟨c, u, hcx, rfl⟩ := hP
    refine ⟨_, rfl, wpAny_letOwnedTupleGo_enum (s := { s with heap := h', toks := tk + 1 }) ho fun h'' he' sb => ?_⟩
    have hT2 : h''.get? s.heap.objs.size = some { cls := .type "tuple", data := .seq #[.int i tk, .str ⟨#[c]⟩ u] } := (sb.2 _ (Nat.ne_of_gt hel)).trans hT
    have new : ObjOk X.prog X.w (upd H s.heap.objs.size (.tup [.int (i : Nat), .str ⟨#[c]⟩])) h'' s.heap.objs.size (.tup [.int (i : Nat), .str ⟨#[c]⟩]) :=
      ⟨by show 2 ≤ sizeLine; decide, [.int i tk, .str ⟨#[c]⟩ u], .cons ⟨_, rfl⟩ (.cons ⟨u, rfl⟩ .nil), ⟨_, hT2, rfl, _, rfl⟩⟩
    have I1 : Inv X pins σ (upd H s.heap.objs.size (.tup [.int (i : Nat), .str ⟨#[c]⟩])) { s with heap := h'', toks := tk + 1 } :=
      I.turnedNew (ch := [e, it]) (fun b ob hb q => (sb.2 b (fun z => hb (by simp [z]))).trans (hk
                                                                  b ob (fun z => hb (by simp [z])) (fun z => hb (by simp [z])) q)) hf (Nat.le_refl _) new
    refine ⟨.ref s.heap.objs.size, _, I1, rfl, ⟨_, c, rfl, I.hok.fresh (Nat.le_refl _), rfl, hcx⟩, ⟨⟨.str ⟨#[c]⟩ u, ?_⟩, ?_, hne⟩, fun b hb => ?_⟩
    · have e1 : ((i + 1 : Nat) : Int)
                                                                = (i : Int) + 1 := by omega
      rw [e1]; exact he'
    · obtain ⟨o, q1, q2⟩ := hit'
      exact ⟨o, (sb.2 it (Ne.symm hne)).trans q1, q2⟩
    · have hb' : b <
                                                                s.heap.objs.size := by
        have e' : b = e ∨ b =
                                                                    it := by simpa using hb
        rcases e' with z | z
        · rw [z]; exact hel
        · rw [z]; exact hil
      rw [upd_ne
                                                                  (Nat.ne_of_lt hb')]
      exact (hf b hb).1
  done := by
    intro X hP hw hK hc i pins s
                                                                σ H E I hf st hg
    subst hP hw hK
    obtain ⟨⟨old, he⟩, hit,
                                                                hne⟩ := st
    obtain ⟨f0, f1, f2, f3, f4, f5⟩
                                                                := hf it (by simp)
    have hg' : i = x.cps.size := hg
    subst hg'
    exact wpAny_pyNext_enum_endD (draws_str (P := X.prog) (w := X.w) (A := X.A.in1) (I.ok.hd hc) it x t) he hit fun h' eb => ⟨rfl, I.turned (t' := s.toks) (fun b o hb q => eb b o hb q) f0 f1 f3 f4 f5⟩
  self := fun A i s Q E st h =>
                                                              let ⟨⟨_, he⟩, _⟩ := st; wpAny_pyIter_enum he h
/-- enumerate of a list or a text -/
def iEnumA (K : PySem.W.Frag) (ta : TA) : TI := fun σ H R => ta σ H fun vs H1 => (∃ a xs, vs = [.ref a] ∧ SqL K H1 a xs ∧ R (Ite K a) H1) ∨ ∃ x, vs = [.str x] ∧ R (Ites x) H1
theorem pi_enumA {e : Expr} {ta : TA} {p pos tpos : Pos} {elts : List Expr} {kk : Nat} (hg : Gl X "enumerate") (hm : X.mg "enumerate" = none) (ha : PA X [e] ta) (hs : starEach [e] X.env = [(false, eval e X.env)] := by rfl) :
    PI X (.Tuple elts kk tpos) (.Call (.Name "enumerate" p) [e] [] pos) (iEnumA X.K ta) := by
  refine ⟨fun pins s σ H
                                                              R I h => ?_⟩
  refine Call_ (ld_blt I hg hm boot_enumerate (PyProof.Rows.callWith_type1 (thn (ha.run pos pins s σ H _
                                                              I h) fun us s1 ⟨vs, H1, I1, r1, q1⟩ => ?_) hs rfl))
  have fp : ∀ b ∈ [s1.heap.objs.size + 1, s1.heap.objs.size], FpOk X pins H1 b := fun b hb => by
    have e' : b = s1.heap.objs.size + 1 ∨ b
                                                                = s1.heap.objs.size := by simpa using hb
    have hle : s1.heap.objs.size ≤
                                                                b := by
      rcases e' with z | z
      · rw [z]; exact Nat.le_add_right
                                                                  _ _
      · rw [z]; exact Nat.le_refl _
    exact I1.fpOk hle
                                                                (I1.hok.fresh hle)
  rcases q1 with ⟨a, xs, ex, hq, q⟩ | ⟨x, ex, q⟩
  · subst ex
    cases r1 with
    | cons r rr =>
      cases rr
      cases r
      obtain ⟨its, rv, p', hz⟩
                                                                  := I1.list hq
      refine call_enumerate_list p'.isList fun h' he hit
                                                                  hsz hk => wpAny_pyIter_enum he ?_
      have I2 : Inv X pins σ H1 { s1 with heap
                                                                  := h' } := I1.kept (t' := s1.toks) hk
      exact ⟨s1.heap.objs.size + 1, [s1.heap.objs.size + 1, s1.heap.objs.size], _, _, H1, rfl, I2, turn_enum a (s1.heap.objs.size + 1) s1.heap.objs.size, ⟨⟨.none, he⟩, hit, Nat.succ_ne_self _⟩, fp, q⟩
  · subst ex
    cases r1 with
    | cons r rr =>
      cases rr
      obtain ⟨t, rfl⟩ := r
      refine call_enumerate_str fun h' he hit hsz hk => wpAny_pyIter_enum he ?_
      have I2 : Inv X pins σ H1 { s1 with heap
                                                                  := h' } := I1.kept (t' := s1.toks) hk
      exact ⟨s1.heap.objs.size + 1, [s1.heap.objs.size + 1, s1.heap.objs.size], _, _, H1, rfl, I2, turn_enum_str x t (s1.heap.objs.size + 1) s1.heap.objs.size, ⟨⟨.none, he⟩, hit, Nat.succ_ne_self _⟩, fp, q⟩
end
end MP

/-! MP: all, any of a generator expression whose parts are any expressions. -/
namespace GX
open PySem
open PySem.Spec
open PyProof.Rows
open L2
open GenW

/-! ### code objects and tables -/
/-- the code object at c, its table at P -/
def CdO (c P : Addr) : HO := .ext fun h => PySem.W.CodeHd h c P
/-- a table that tells tracked code objects with such tables -/
def GT (H : Hp) (P : Addr) : Prop := ∃ S : Addr → Prop, S P ∧ ∀ Q, S Q → ∃ ps, H Q = some (.tbl ps) ∧ TriplesOk ps.toList ∧ ∀ (pos : Pos) (cv : Value), codeAmong pos ps.toList = some cv → ∃ c Q', cv = .ref c ∧ H c = some (CdO c Q') ∧ S Q'
theorem GT.at {H : Hp} {P : Addr} (g : GT H P) : ∃ ps, H P = some (.tbl ps) ∧ TriplesOk ps.toList ∧ ∀ (pos : Pos) (cv : Value), codeAmong pos ps.toList = some cv → ∃ c Q', cv = .ref c ∧ H c = some (CdO c Q') ∧ GT H Q' := by
  obtain ⟨S, h1, h2⟩ := g
  obtain ⟨ps, a, b, c⟩ := h2 P h1
  exact ⟨ps, a, b, fun pos cv z => let ⟨c, Q', e1, e2, e3⟩ := c pos cv z; ⟨c, Q', e1, e2, S, e3, h2⟩⟩
theorem GT.up {H H' : Hp} {P : Addr} (g : GT H P) (up : ∀ b u, H b = some u → ((∃ ps, u = .tbl ps) ∨ ∃ c P, u = CdO c P) → H' b = some u) : GT H' P := by
  obtain ⟨S, h1, h2⟩ := g
  refine ⟨S, h1, fun Q hQ => ?_⟩
  obtain ⟨ps, a, b, c⟩ := h2 Q hQ
  exact ⟨ps, up _ _ a (.inl ⟨_, rfl⟩), b, fun pos cv z => let ⟨c, Q', e1, e2, e3⟩ := c pos cv z; ⟨c, Q', e1, up _ _ e2 (.inr ⟨_, _, rfl⟩), e3⟩⟩
theorem GT.of {H : Hp} {S : Addr → Prop} (h : ∀ Q, S Q → H Q = some (.tbl #[])) {P : Addr} (hP : S P) : GT H P :=
  ⟨S, hP, fun Q hQ => ⟨#[], h Q hQ, True.intro, fun pos cv z => by have z : codeAmong pos [] = some cv := z; simp [codeAmong] at z⟩⟩
def Kc (base : Heap) (H : Hp) (c P : Addr) : Prop := (PySem.W.CodeHd base c P ∨ H c = some (CdO c P)) ∧ GT H P
theorem cdO_ne {c P : Addr} (ps : Array Value) : CdO c P ≠ .tbl ps := fun z => by
  unfold CdO at z
  cases z
/-- all but the tables stays; tables stay tables -/
structure ExtT (H H' : Hp) : Prop where
  st : ∀ b o, H b = some o → (∀ ps, o ≠ .tbl ps) → H' b = some o
  tb : ∀ P ps, H P = some (.tbl ps) → ∃ ps', H' P = some (.tbl ps')
  gt : ∀ P, GT H P → GT H' P
section
variable {X : Cx} {pins : List (Addr × Obj)}
                                                            {σ : L2.St} {H : Hp} {s : Shared}
def updT (H : Hp) (P c P' : Addr) (ps : Array Value) : Hp := upd (upd (upd H P (.tbl ps)) c (CdO c P')) P' (.tbl #[])
theorem Kc.head {base : Heap} {h : Heap} {w : World} {Pr : Program} {c P : Addr} (k : Kc base H c P) (hb : ∀ b o, base.get? b = some o → h.get? b = some o) (hok : HOk Pr w H h) : PySem.W.CodeHd h c P := by
  rcases k.1 with z | z
  · exact z.keeps hb
  · obtain ⟨q, _, _⟩ := hok c _ z
    exact q
/-- a table has grown by a new code object -/
theorem inv_code {P c P' : Addr} {ps more : Array Value} {h' : Heap} {t' : Nat} (I : Inv X pins σ H s) (hP : H P = some (.tbl ps)) (k : ∀ b o, b ≠ P → s.heap.get? b = some o → h'.get? b = some o)
    (hm : h'.get? P = some { cls := .none, data := .fields (ps ++ more) }) (hc : s.heap.objs.size ≤ c) (hP' : s.heap.objs.size ≤ P') (ne : c ≠ P') (hcd : PySem.W.CodeHd h' c P') (hpt : h'.get? P' = some { cls := .none, data := .fields #[] }) :
    Inv X pins σ (updT H P c P' (ps ++ more)) { s with heap := h', toks := t' } := by
  have nC : H c =
                                                              none := I.hok.fresh hc
  have nP' : H P' = none := I.hok.fresh hP'
  have nPc : P ≠ c
                                                              := ne_of_none hP nC
  have nPP : P ≠ P' := ne_of_none hP nP'
  have at_ : ∀ b, b ≠ P → b ≠ c → b ≠ P' → updT H P c P' (ps ++ more) b = H b := fun b h1 h2 h3 => by unfold updT; rw [upd_ne h3, upd_ne h2, upd_ne h1]
  have atP : updT H P c P' (ps ++ more) P = some (.tbl (ps ++ more)) := by unfold updT; rw [upd_ne nPP, upd_ne nPc, upd_same]
  have atC : updT H P c P' (ps ++ more) c = some (CdO c P') := by unfold updT; rw [upd_ne ne, upd_same]
  have atQ : updT H P c P' (ps ++ more) P' = some (.tbl #[]) := by unfold updT; rw [upd_same]
  have nP : ∀ b u, H b = some u → (∀ q, u ≠ .tbl
                                                              q) → b ≠ P := fun b u e q z => by
    rw [z, hP] at e
    exact q ps
                                                                (Option.some.inj e).symm
  have nN : ∀ b, H b = none → b
                                                              ≠ P := fun b e z => by
    rw [z, hP] at e
    cases e
  have lt' : ∀ b o, s.heap.get? b = some o → b
                                                              ≠ c := fun b o e z => by
    rw [z] at e
    exact Nat.lt_irrefl _ (Nat.lt_of_lt_of_le
                                                                (Heap.lt_size e) hc)
  have lt2 : ∀ b o, s.heap.get? b = some o → b ≠ P' := fun b o e z => by
    rw [z] at e
    exact Nat.lt_irrefl _ (Nat.lt_of_lt_of_le (Heap.lt_size e) hP')
  have sm : ∀ b u, H b = some u → b
                                                              ≠ c := fun b u e => ne_of_none e nC
  have sm2 : ∀ b u, H b = some u → b ≠ P' := fun b u e => ne_of_none e nP'
  refine I.step (g' := s.gens) (d' := s.drawn) (ch := []) (fun b hb => absurd hb (by simp)) (fun b o _ _ _ e n
                                                              => k b o (nN b n) e) (fun b o _ _ _ e n => ⟨o.slots, k b o (nN b n) e⟩)
    (fun b o _ e n => by rw [at_ b (nN b n) (lt' b o e) (lt2 b o e)]; exact n) (fun b o _ e => ?_) (fun b xs e => by rw [at_ b (nP b _ e (fun q z => by cases z)) (sm b _ e) (sm2 b _ e)]; exact e) (fun b o u e => by rw [at_ b (nP b _ e (fun q z => by cases z)) (sm b _ e) (sm2 b _ e)]; exact e) (fun b qs e => ?_) (fun m hn => ?_) (fun b u e => ?_) I.bare
  · by_cases hb : b = P
    · rw [hb]
      exact ⟨_, hm⟩
    · exact ⟨o, k b o hb e⟩
  · by_cases hb : b = P
    · rw [hb, hP] at e
      cases e
      rw [hb, atP]
      exact ⟨more, rfl⟩
    · rw [at_ b hb (sm b _ e) (sm2 b _ e), e]
      exact ⟨#[], by simp⟩
  · obtain ⟨ob, es, ep, ho,
                                                              r⟩ := hn
    exact ⟨ob, es, ep, k _ ob
                                                                (nN _ I.free) ho, r⟩
  · by_cases hb : b = c
    · rw [hb, atC] at e
      cases e
      rw [hb]
      obtain ⟨o, vs, file, tf, flags, tg, inF, text, tt, e1, r⟩ := id hcd
      exact ⟨hcd, ⟨o, e1⟩, fun h1 h2 ⟨o, vs, file, tf, flags, tg, inF, text, tt, e1, r⟩ st => ⟨o, vs, file, tf, flags, tg, inF, text, tt, st _ e1, r⟩⟩
    · by_cases hb2 : b = P
      · rw [hb2, atP] at e
        cases e
        rw [hb2]
        exact hm
      · by_cases hb3 : b = P'
        · rw [hb3, atQ] at e
          cases e
          rw [hb3]
          exact hpt
        · rw [at_ b hb2 hb hb3] at e
          refine (I.hok b u e).stay (fun d v hd q => k d v ?_ q) (fun d q => by rw [at_ d (nP d _ q (fun q z => by cases z)) (sm d _ q) (sm2 d _ q)]; exact q) fun d xs q => by rw [at_ d (nP d _ q (fun q z => by cases z)) (sm d _ q) (sm2 d _ q)]; exact q
          rcases hd with z | z
          · rw [z]
            exact hb2
          · exact nP d _ z (fun q
                                                                      z => by cases z)
theorem updT_ext {P c P' : Addr} {ps : Array Value} {pos : Pos} (hP : H P = some (.tbl ps)) (nC : H c = none) (nP' : H P' = none) (ne : c ≠ P') : ExtT H (updT H P c P' (ps ++ #[rawInt pos.line, rawInt pos.col, .ref c])) := by
  have st : ∀ b o, H b = some o → (∀ ps, o ≠ .tbl ps) → updT H P c P' (ps ++ #[rawInt pos.line, rawInt pos.col, .ref c]) b = some o := fun b o e n => by
    have h1 : b ≠ P := fun z => n ps (Option.some.inj (by rw [← e, z, hP]))
    unfold updT; rw [upd_ne (ne_of_none e nP'), upd_ne (ne_of_none e nC), upd_ne h1]; exact e
  have atC : updT H P c P' (ps ++ #[rawInt pos.line, rawInt pos.col, .ref c]) c = some (CdO c P') := by unfold updT; rw [upd_ne ne, upd_same]
  have atQ : updT H P c P' (ps ++ #[rawInt pos.line, rawInt pos.col, .ref c]) P' = some (.tbl #[]) := by unfold updT; rw [upd_same]
  refine ⟨st, fun Q qs e => ?_, fun Q ⟨S, h1, h2⟩ => ⟨fun q => S q ∨ q = P', .inl h1, fun q hq => ?_⟩⟩
  · unfold updT
    by_cases h1 : Q = P
    · subst h1; exact ⟨ps ++ _, by rw [upd_ne (ne_of_none e nP'), upd_ne (ne_of_none e nC), upd_same]⟩
    · exact ⟨qs, by rw [upd_ne (ne_of_none e nP'), upd_ne (ne_of_none e nC), upd_ne h1]; exact e⟩
  · rcases hq with hq | rfl
    · obtain ⟨qs, a, b, d⟩ := h2 q hq
      have up : ∀ {cv : Value}, (∃ c Q', cv = .ref c ∧ H c = some (CdO c Q') ∧ S Q') → ∃ c' Q', cv = .ref c' ∧ updT H P c P' (ps ++ #[rawInt pos.line, rawInt pos.col, .ref c]) c' = some (CdO c' Q') ∧ (S Q' ∨ Q' = P') := fun ⟨c1, Q', e1, e2, e3⟩ =>
        ⟨c1, Q', e1, st _ _ e2 cdO_ne, .inl e3⟩
      by_cases hqP : q = P
      · subst hqP
        rw [hP] at a
        cases a
        have eL : (ps ++ #[rawInt pos.line, rawInt pos.col, Value.ref c]).toList = ps.toList ++ [rawInt pos.line, rawInt pos.col, .ref c] := by simp
        refine ⟨_, by unfold updT; rw [upd_ne (ne_of_none hP nP'), upd_ne (ne_of_none hP nC), upd_same], by rw [eL]; exact PySem.TriplesOk_snoc _ _ _ _ b, fun p cv z => ?_⟩
        rw [eL] at z
        rcases LamX.among_app _ b z with z | z
        · exact up (d p cv z)
        · exact ⟨c, P', z, atC, .inr rfl⟩
      · exact ⟨qs, by unfold updT; rw [upd_ne (ne_of_none a nP'), upd_ne (ne_of_none a nC), upd_ne hqP]; exact a, b, fun p cv z => up (d p cv z)⟩
    · exact ⟨#[], atQ, True.intro, fun p cv z => by have z : codeAmong p [] = some cv := z; simp [codeAmong] at z⟩
theorem ExtT.refl : ExtT H H := ⟨fun _ _ h _ => h, fun _ ps h => ⟨ps, h⟩, fun _ h => h⟩
/-- the code object of a generator expression: found or made -/
theorem gen_code {c P : Addr} {pos : Pos} {q : Str} {scope : Scope} {E : Value → Shared → Prop} {Q : Value → Shared → Prop} (I : Inv X pins σ H s) (hcode : X.env.code = .ref c) (k : Kc X.base H c P)
    (h : ∀ (c' P' : Addr) (H1 : Hp) (s' : Shared), Inv X pins σ H1 s' → ExtT H H1 → H1 c' = some (CdO c' P') → GT H1 P' → (∀ b, b ≠ P → ∀ o, s.heap.get? b = some o → s'.heap.get? b = some o) → s.heap.objs.size ≤ s'.heap.objs.size → (∀ b o, s.heap.get? b = some o → H b = none → H1 b = none) → Q (.ref c') s') :
    wpAny (model X.prog X.w) X.A (genexprCode X.env pos q scope) Q E s := by
  obtain ⟨ps, hP, t1, t2⟩ := k.2.at
  have hPs : s.heap.get? P = some { cls := .none, data := .fields ps } := I.hok P _ hP
  have cd := k.head I.bk I.hok
  cases hf : codeAmong pos ps.toList with
  | none =>
    refine wpAny_genexprCodeX hcode (cd.code hPs t1) (cd.tab hPs) hf fun c' h' tk hx hge hlt hco' hrec htab' hnew => ?_
    obtain ⟨P', hP', n1, n2⟩ := hnew
    have nC : H c' =
                                                                none := I.hok.fresh hge
    have nP' : H P' = none := I.hok.fresh hP'
    have hcd := PySem.W.CodeHd.of n1 n2
    have ne : c' ≠ P' := let ⟨_, _, _, _, _, _, _, _, _, _, _, _, _, _, _, _, _, _, ne⟩ := hcd; ne
    have J := inv_code (t' := tk) I hP (fun b o hb e => hx b o hb e) htab'.2 hge hP' ne hcd n2.2
    exact h c' P' _ _ J (updT_ext hP nC nP' ne) (by unfold updT; rw [upd_ne ne, upd_same]) (GT.of (S := fun q => q = P') (fun q hq => by subst hq; unfold updT; rw [upd_same]) rfl) (fun b hb o e => hx b o hb e) (Nat.le_trans hge (Nat.le_of_lt hlt)) (fun b o e n => by
      have l := Heap.lt_size e
      unfold updT
      rw [upd_ne (Nat.ne_of_lt (Nat.lt_of_lt_of_le l hP')), upd_ne (Nat.ne_of_lt (Nat.lt_of_lt_of_le l hge)), upd_ne (fun z => by rw [z, hP] at n; cases n)]
      exact n)
  | some cv =>
    refine wpAny_genexprCode_hit hcode (cd.code hPs t1) hf ?_
    obtain ⟨c', P', rfl, e2, e3⟩ := t2 pos cv hf
    exact h c' P' H s I .refl e2 e3 (fun _ _ _ e => e) (Nat.le_refl _) (fun _ _ _ n => n)
end

/-! ### the generator's frame -/
theorem newEnv_gen {M : Model} {A : Around} {E : Value → Shared → Prop} {s : Shared} {scope : Scope} {globals : Addr} {cl : List (Str × Addr)} {qual : Str} {code it : Value} {bi : Addr} {Q : Env → Shared → Prop}
    (h0 : scope.names.lookup (".0" : Str) = some NameKind.local) (hk : scope.kind = .function)
    (h : ∀ h' tk, h'.Ns s.heap.objs.size (fun y => if y = (".0" : Str) then some it else none) → Heap.SameBut s.heap.objs.size (pushCells (s.heap.push { cls := .type "frame", data := .dict #[] }) scope.names) h' →
      Q (newEnv scope s.heap.objs.size globals (cellsFrom (s.heap.objs.size + 1) scope.names cl) qual none code none bi) { s with heap := h', toks := tk }) :
    wpAny M A (newFunctionEnv scope globals cl [(".0", it)] qual none code none bi) Q E s := by
  simp only [newFunctionEnv, Option.isSome_none,
                                                              Bool.false_eq_true, if_false]
  refine wpAny_bind
                                                              (wpAny_alloc ?_)
  refine wpAny_bind (wpAny_layCells _ (fun name kind cells => by cases hkc :
                                                              kind == NameKind.cell <;> simp [hkc]) _ _ _ _ ?_)
  rw [show ({ s with heap := s.heap.push { cls := .type "frame", data :=
                                                              .dict #[] } } : Shared).heap.objs.size = s.heap.objs.size + 1 from Heap.size_push ..]
  refine wpAny_bind ?_
  rw [List.forIn_cons]
  have hk' : Env.kindOf (newEnv scope s.heap.objs.size globals (cellsFrom (s.heap.objs.size + 1) scope.names cl) qual none code none bi) ".0" = some .local := h0
  have hp : ((newEnv scope s.heap.objs.size globals (cellsFrom (s.heap.objs.size + 1) scope.names cl) qual none code none bi).scope.kind == .class || ((newEnv scope s.heap.objs.size globals (cellsFrom (s.heap.objs.size + 1) scope.names cl) qual none code none bi).scope.kind == .module &&
      (newEnv scope s.heap.objs.size globals (cellsFrom (s.heap.objs.size + 1) scope.names cl) qual none code none bi).locals != (newEnv scope s.heap.objs.size globals (cellsFrom (s.heap.objs.size + 1) scope.names cl) qual none code none bi).globals)) = false := by
    show (scope.kind == .class || (scope.kind ==
                                                                .module && _)) = false
    rw [hk]; rfl
  have hns : (pushCells (s.heap.push { cls := .type "frame", data := .dict #[] }) scope.names).Ns s.heap.objs.size fun _ => none := (Heap.Ns.new s.heap (.type "frame")).keeps (pushCells_keeps _ _)
  refine wpAny_bind
                                                              (wpAny_bind ?_)
  refine wpAny_storeName_local (env := newEnv scope s.heap.objs.size globals (cellsFrom (s.heap.objs.size + 1) scope.names cl) qual none code none bi) hk' hns (fun h' hn' hs' => ?_) hp
  refine wpAny_pure ?_
  dsimp only
  rw [List.forIn_nil]
  exact wpAny_pure (wpAny_pure (h h' _ hn' hs'))

abbrev gen (X : Cx) (s : Shared) (H : Hp) (A : Around) (scope : Scope) (cenv : Env) (fp : List Addr) (pn : List (Addr × Obj)) : Cx := { X with s_0 := s, H_0 := H, A := A, env := cenv, outer := X.stack, stack := cenv :: X.stack, ex := fp, fn := fun x => scope.names.lookup x == some .cell, pn := pn, xe := fun _ _ => False }
/-- what is known of the generator's environment -/
structure GenE (X : Cx) (scope : Scope) (cd : Value) (cenv : Env) : Prop where
  sc : cenv.scope = scope
  gl : cenv.globals = X.env.globals
  bi : cenv.builtins = builtinsNs
  fr : cenv.frame = some cenv.locals
  code : cenv.code = cd
section
variable {X : Cx} {pins : List (Addr × Obj)} {σ : L2.St} {H : Hp} {s s5 : Shared}
theorem gen_start {pn : List (Addr × Obj)} {scope : Scope} {own : List (Str × Nat)} {fp : List Addr} {cenv : Env} {A : Around} {m : Str → Option Value} {cd : Value} (I : Inv X pins σ H s) (ok : BlkOk X.N X.env.scope scope own) (hN : X.N.Nodup) (hfp : ∀ b ∈ fp, FpOk X pins H b ∧ b < s.heap.objs.size)
    (ge : GenE X scope cd cenv) (hL : cenv.locals = s.heap.objs.size) (hcl : cenv.cells = cellsFrom (s.heap.objs.size + 1) scope.names (cloFrom X.env.cells scope.names []))
    (kp : ∀ b o, s.heap.get? b = some o → s5.heap.get? b = some o) (kc : ∀ b o, b ≠ s.heap.objs.size → (pushCells (s.heap.push { cls := .type "frame", data := .dict #[] }) scope.names).get? b = some o → s5.heap.get? b = some o)
    (hns : s5.heap.Ns s.heap.objs.size m) (hos : s5.os = s.os) (hb : AllBare s5.gens) (hA : A.handled = none) (hF : A.frames = some (cenv :: X.stack)) (hpn : ∀ p ∈ pn, s5.heap.get? p.1 = some p.2 ∧ s.heap.objs.size < p.1 ∧ ∀ v, p.2.data ≠ .cell v) :
    Inv (gen X s H A scope cenv fp pn) [] (wipe σ (own.map (·.2))) H s5 := by
  have hfree : ∀ y ∈ scope.names, y.2 = .free → ∃ c,
                                                              X.env.cells.lookup y.1 = some c := fun y hy e => by
    rcases ok.free y hy e
                                                                with k | k
    · exact I.ok.has _ (.inl k)
    · exact I.ok.has _ (.inr k)
  have hsc : cenv.scope = scope := ge.sc
  rw [← Heap.size_push s.heap { cls := .type "frame", data := .dict #[] }] at hcl
  have cm : ∀ {y c}, (y, c) ∈ cloFrom X.env.cells scope.names [] → X.env.cells.lookup y
                                                              = some c ∧ c < s.heap.objs.size := fun {y c} hm => by
    rcases cloFrom_mem hm with hm
                                                                | ⟨h1, rfl⟩
    · cases hm
    · obtain ⟨c, hc⟩ := hfree
                                                                _ h1 rfl
      rw [hc]
      obtain ⟨w, z⟩ := I.cell
                                                                  _ _ hc
      exact ⟨rfl, z.lt⟩
  have mem : ∀ {y c}, cenv.cells.lookup y = some c → (X.env.cells.lookup y = some c ∧ c < s.heap.objs.size) ∨ (s.heap.objs.size + 1 ≤ c ∧ CellAt (pushCells (s.heap.push { cls := .type "frame", data := .dict #[] }) scope.names) c none) := fun {y c} e => by
    rw [hcl] at e
    rcases cells_mem (PySem.mem_of_lookup e) with hm
                                                                | ⟨_, h2, h3⟩
    · exact .inl (cm hm)
    · rw [Heap.size_push] at h2; exact
                                                                .inr ⟨h2, h3⟩
  have look : ∀ {y}, scope.names.lookup y = some .free → ∃ c, cenv.cells.lookup y =
                                                              some c ∧ X.env.cells.lookup y = some c := fun {y} hl => by
    have hy : (y, NameKind.free) ∈
                                                                scope.names := PySem.mem_of_lookup hl
    obtain ⟨c', e'⟩ := mem_lookup (cells_acc (names := scope.names) (n := (s.heap.push { cls := .type "frame", data := .dict #[] }).objs.size) (cloFrom_has (cells := X.env.cells) (acc := []) hy))
    rw [← hcl] at e'
    refine ⟨c', e', ?_⟩
    rw [hcl] at e'
    rcases cells_mem (PySem.mem_of_lookup e') with hm
                                                                | ⟨h1, _, _⟩
    · exact (cm hm).1
    · have := ok.uniq _ h1
      rw [hl] at this; cases this
  have cellAt : ∀ {c : Addr} {v : Option Value}, s.heap.objs.size + 1 ≤ c → CellAt (pushCells (s.heap.push { cls := .type "frame", data := .dict #[] }) scope.names) c v → CellAt s5.heap c v := fun {c v} hc ⟨o, ho, hd⟩ => ⟨o, kc _ _ (by omega) ho, hd⟩
  have okB : (gen X s H A scope cenv fp pn).Ok := by
    refine ⟨I.ok.mod, by show cenv.scope.kind = _; rw [hsc]; exact ok.kind, by show cenv.globals = _; rw [ge.gl]; exact I.ok.glob, ge.bi, by show s.heap.objs.size ≤ cenv.locals; rw [hL]; exact Nat.le_refl _,
      fun y z c e1 e2 => ?_, fun y hy => ?_, fun y c z e => ?_, fun _ => hA, hF, .inr ⟨rfl, ge.fr⟩, fun b hb => ⟨?_, fun y c e z => ?_⟩, I.bs, Nat.le_trans I.ok.bsz I.sz, fun b o e hb => ?_, fun b hb z => ?_, I.stack, I.stkFree⟩
    · have e1 : cenv.cells.lookup y =
                                                                some c := e1
      have e2 : cenv.cells.lookup z =
                                                                  some c := e2
      rw [hcl] at e1 e2
      refine cells_inj (fun p hp => ?_) (fun y z c a b =>
                                                                  I.ok.inj y z c (cm a).1 (cm b).1) (PySem.mem_of_lookup e1) (PySem.mem_of_lookup e2)
      rw [Heap.size_push]
      exact Nat.lt_succ_of_lt (cm (y := p.1)
                                                                  (c := p.2) hp).2
    · show ∃ c, cenv.cells.lookup y
                                                                = some c
      have key : ∀ k, cenv.kindOf y = some k → (k = .cell ∨ k = .free)
                                                                  → ∃ c, cenv.cells.lookup y = some c := fun k hk hk' => by
        unfold Env.kindOf at hk
        rw [hsc] at hk
        rcases hk' with rfl | rfl
        · obtain ⟨c, hm⟩ := cells_has (n := (s.heap.push { cls := .type "frame", data := .dict #[] }).objs.size) (acc := cloFrom X.env.cells scope.names []) (PySem.mem_of_lookup hk)
          obtain ⟨c', e'⟩ :=
                                                                      mem_lookup hm
          exact ⟨c', by rw
                                                                      [hcl]; exact e'⟩
        · obtain ⟨c, h1, _⟩ := look hk
          exact ⟨c, h1⟩
      rcases hy with hy | hy
      · exact key _ hy (.inl rfl)
      · exact key _ hy (.inr rfl)
    · have z : (scope.names.lookup y == some
                                                                NameKind.cell) = true := z
      have z : scope.names.lookup y = some .cell
                                                                  := by simpa using z
      have e : cenv.cells.lookup y = some
                                                                  c := e
      rw [hcl] at e
      rcases cells_mem (PySem.mem_of_lookup e) with hm
                                                                  | ⟨_, h2, _⟩
      · rcases cloFrom_mem hm with hm
                                                                  | ⟨h1, _⟩
        · cases hm
        · have q := ok.uniq _ h1
          rw [z] at q; cases q
      · rw [Heap.size_push] at h2
        exact Nat.le_of_succ_le h2
    · show b ≠ cenv.locals
      rw [hL]; exact Nat.ne_of_lt (hfp
                                                                  b hb).2
    · have e : cenv.cells.lookup y =
                                                                some c := e
      rcases mem e with ⟨h1,
                                                                  _⟩ | ⟨h1, _⟩
      · exact (hfp b hb).1.2.2.2.2.1 y
                                                                  c h1 z
      · have h2 : s.heap.objs.size + 1 ≤ b
                                                                  := by rw [← z]; exact h1
        exact absurd (Nat.lt_of_lt_of_le (hfp b hb).2
                                                                    (Nat.le_of_succ_le h2)) (Nat.lt_irrefl _)
    · rcases (hfp b hb).1.2.2.2.1 with
                                                                z | z
      · exact I.ok.noex b o e z
      · exact absurd (Nat.lt_of_lt_of_le (Heap.lt_size e) (Nat.le_trans
                                                                  I.ok.bsz z)) (Nat.lt_irrefl _)
    · rcases List.mem_cons.mp (I.stkSub b z)
                                                                with z | z
      · exact (hfp b hb).1.2.1 z
      · exact (hfp b hb).1.2.2.1 z
  refine ⟨okB, hos, hb, Un.kept kp, ⟨m, by show s5.heap.Ns cenv.locals m; rw [hL]; exact hns, fun i y av e1 e2 e3 => ?_⟩, fun y c e => ?_, ?_, fun y c e => ?_, fun p hp => ?_, I.hok.kept kp, by rw [wipe_length]; exact I.len⟩
  · obtain ⟨e2, hne⟩ :=
                                                              wipe_some e2
    have hfr : scope.names.lookup y = some .free ∧ (cenv.kindOf y =
                                                                some .cell ∨ cenv.kindOf y = some .free) := by
      have key : ∀ k, cenv.scope.names.lookup y = some k → k = .local ∨ k = .cell ∨ k = .free → scope.names.lookup y
                                                                  = some .free ∧ (cenv.kindOf y = some .cell ∨ cenv.kindOf y = some .free) := fun k hk hk' => by
        have hk0 := hk
        rw [hsc] at hk
        have no : ¬ (k = .local ∨ k = .cell) := fun hh => by
          rcases ok.own _ (PySem.mem_of_lookup hk) hh with e' | e'
          · obtain ⟨p, hp, hpy⟩
                                                                      := List.mem_map.mp e'
            have e3 := ok.ix p hp
            have : p.1 = y := hpy
            rw [this] at e3
            exact hne (List.mem_map.mpr ⟨p, hp,
                                                                        nodup_ix hN e3 e1⟩)
          · exact e'
                                                                      (List.mem_of_getElem? e1)
        rcases hk' with rfl | rfl | rfl
        · exact absurd (.inl rfl) no
        · exact absurd (.inr rfl) no
        · exact ⟨hk, .inr hk0⟩
      have e3 : Vis cenv.scope
                                                                  y := e3
      rcases e3 with e3 | e3 | e3
      · exact key _ e3 (.inl rfl)
      · exact key _ e3
                                                                  (.inr (.inl rfl))
      · exact key _ e3
                                                                  (.inr (.inr rfl))
    obtain ⟨m, hn, hl⟩ := I.loc
    have hvis : Vis X.env.scope y := (ok.free _ (PySem.mem_of_lookup hfr.1) rfl).elim (fun
                                                                k => .inr (.inl k)) (fun k => .inr (.inr k))
    obtain ⟨w, r, q⟩ := hl i
                                                                y av e1 e2 hvis
    refine ⟨w, r, .inr
                                                                ⟨hfr.2, ?_⟩⟩
    obtain ⟨c, h1, h2⟩
                                                                := look hfr.1
    rcases q with ⟨k, _⟩ |
                                                                ⟨_, c', e', z⟩
    · have k : X.env.scope.names.lookup y =
                                                                some .local := k
      rcases ok.free _ (PySem.mem_of_lookup hfr.1) rfl with k' | k' <;> rw [show
                                                                  X.env.scope.names.lookup y = _ from k'] at k <;> cases k
    · rw [h2] at e'; cases e'
      exact ⟨c, h1, z.keeps kp⟩
  · have e : cenv.cells.lookup y =
                                                              some c := e
    rcases mem e with ⟨h1, _⟩ | ⟨h1, z⟩
    · obtain ⟨w, z⟩ := I.cell
                                                                y c h1
      exact ⟨w, z.keeps kp⟩
    · exact ⟨_, cellAt h1 z⟩
  · show H cenv.locals = none
    rw [hL]; exact I.hok.fresh
                                                                (Nat.le_refl _)
  · have e : cenv.cells.lookup y =
                                                              some c := e
    rcases mem e with ⟨h1,
                                                                _⟩ | ⟨h1, _⟩
    · exact I.freeC y c h1
    · exact I.hok.fresh
                                                                (Nat.le_of_succ_le h1)
  · have hp : p ∈ pn := by simpa using (show p ∈ pn ++ [] from hp)
    obtain ⟨p1, p2, p3⟩ := hpn p hp
    refine ⟨p1, I.hok.fresh (Nat.le_of_lt p2), by show p.1 ≠ cenv.locals; rw [hL]; exact Nat.ne_of_gt p2, fun z => ?_, p3⟩
    rcases List.mem_cons.mp (I.stkSub _ z)
                                                                with e | e
    · have h1 := I.lt
      rw [← e] at h1
      exact Nat.lt_irrefl _ (Nat.lt_trans h1 p2)
    · exact I.nofs (Nat.le_of_lt p2) e
/-- the same heap, other generators -/
theorem inv_same {s' : Shared} (I : Inv X pins σ H s) (h1 : s'.heap = s.heap) (h2 : s'.os = s.os) (h3 : AllBare s'.gens) : Inv X pins σ H s' :=
  ⟨I.ok, by rw [h2]; exact I.os, h3, by rw [h1]; exact I.base, by rw [h1]; exact I.loc, by rw [h1]; exact I.cell, I.free, I.freeC, by rw [h1]; exact I.pin, by rw [h1]; exact I.hok, I.len⟩
end

/-! ### the walk of the generator -/
def GYb (k : Bool) (a : Addr) (g : Nat) (Fin : Bool → Shared → Prop) : Protocol := fun _ _ v s kap => ∃ b, v = .bool b ∧ s.heap.IsGen a g ∧ s.heap.NoLimit ∧ AllBare s.gens ∧
  if b = k then ∀ s', s'.heap = s.heap → s'.os = s.os → AllBare s'.gens → kap (.send .none) s' else Fin b s
def GRb (k : Bool) (Fin : Bool → Shared → Prop) : GenEnd := fun _ _ r s => ((r = .ok (.ret .none) ∨ r = .ok .next) ∧ Fin k s) ∨ ∃ e, r = .error e ∧ False
/-- what stays true -/
def Stab (Fin : Bool → Shared → Prop) : Prop := ∀ b s s', Fin b s → (∀ x o, s.heap.get? x = some o → s'.heap.get? x = some o) → s'.os = s.os → (AllBare s.gens → AllBare s'.gens) → Fin b s'
section
variable {P : Program} {w : World} {A : Around} {Fin : Bool → Shared → Prop} {a : Addr} {g : Nat}
theorem drain_all (hh : A.handled = none) (hd : A.depth < recursionLimit) (st : Stab Fin) :
    ∀ (m : Nat) (s : Shared), s.heap.IsGen a g → s.heap.NoLimit → (∃ gs, s.gens[g]? = some gs ∧ gs.Goes (model P w) A.in1.in1 (GRb true Fin) (GYb true a g Fin) m (.send .none) (s.setGen g .running)) →
      codeAny (model P w) A (.builtin "all.loop" ⟨[.ref a], []⟩) (fun r s' => ∃ b, r = .ok (.ret (.bool b)) ∧ Fin b s') s := by
  intro m
  induction m with
  | zero =>
    intro s hg hl ⟨gs, hgs, hgo⟩
    refine codeAny_builtin
                                                                F.entry_all_loop ?_
    rw [Around.under_plainId
                                                                F.plain_all_loop _]
    show wpAny _ A.in1 (pyNext (.ref a)
                                                                >>= _) _ _ s
    refine wpAny_bind (next_genG (F := fun _ _ s => Fin true s) (Er := fun _ _ => False) (A := A.in1) hh hl hd hg hgs hgo (fun v s₁ gs' hbare hv => ?_) (fun s₁ hp h' hk => ?_) fun e s₁ he => he.elim)
    · obtain ⟨b, rfl, _, _, hb, hk⟩ := hv
      refine wpAny_bind (wpAny_holding
                                                                  (wpAny_truthy_bool ?_))
      refine wpAny_bind
                                                                  (wpAny_letGo ?_)
      cases b with
      | true => rw [if_pos rfl] at hk; exact (hk s₁ rfl rfl hb).elim
      | false =>
        rw [if_neg (by decide)] at hk
        simp only
                                                                    [Bool.false_eq_true, if_false]
        refine wpAny_bind (wpAny_rule (wpAny_pure ⟨false, rfl, st _ _ _ hk (fun _ _ e => e) rfl fun z => allBare_setGen z hbare⟩))
    · refine wpAny_bind (wpAny_rule (wpAny_pure ⟨true, rfl, st _ _ _ hp hk rfl fun z => allBare_setGen z rfl⟩))
  | succ m ih =>
    intro s hg hl ⟨gs, hgs, hgo⟩
    have hgl : g < s.gens.size
                                                                := (Array.getElem?_eq_some_iff.mp hgs).1
    refine codeAny_builtin
                                                                F.entry_all_loop ?_
    rw [Around.under_plainId
                                                                F.plain_all_loop _]
    show wpAny _ A.in1 (pyNext (.ref a)
                                                                >>= _) _ _ s
    refine wpAny_bind (wpAny_gsz (n := g + 1) hgl (next_genG (F := fun _ _ s => Fin true s) (Er := fun _ _ => False) (A := A.in1) hh hl hd hg hgs hgo (fun v s₁ gs' hbare hv => ?_) (fun s₁ hp h' hk => ?_) fun e s₁ he => he.elim))
    · intro hsz
      obtain ⟨b, rfl, hg1, hl1, hb, hk⟩ := hv
      have hsz1 : g <
                                                                  s₁.gens.size := by
        have q : (s₁.setGen g gs').gens.size = s₁.gens.size
                                                                    := setGen_size _ _ _
        have hsz' : g + 1 ≤
                                                                    (s₁.setGen g gs').gens.size := hsz
        omega
      refine wpAny_bind (wpAny_holding
                                                                  (wpAny_truthy_bool ?_))
      refine wpAny_bind
                                                                  (wpAny_letGo ?_)
      cases b with
      | true =>
        rw [if_pos rfl] at hk
        simp only [if_true]
        refine wpAny_pure ⟨plainId_quiet F.plain_all_loop _, ih _ hg1 hl1 ⟨gs', setGen_at hsz1, ?_⟩⟩
        exact hk _ rfl rfl (allBare_setGen (s := s₁.setGen g gs') (allBare_setGen hb hbare) rfl)
      | false =>
        rw [if_neg (by decide)] at hk
        simp only
                                                                    [Bool.false_eq_true, if_false]
        refine wpAny_bind (wpAny_rule (wpAny_pure ⟨false, rfl, st _ _ _ hk (fun _ _ e => e) rfl fun z => allBare_setGen z hbare⟩))
    · intro hsz
      refine wpAny_bind (wpAny_rule (wpAny_pure ⟨true, rfl, st _ _ _ hp hk rfl fun z => allBare_setGen z rfl⟩))
theorem drain_any (hh : A.handled = none) (hd : A.depth < recursionLimit) (st : Stab Fin) :
    ∀ (m : Nat) (s : Shared), s.heap.IsGen a g → s.heap.NoLimit → (∃ gs, s.gens[g]? = some gs ∧ gs.Goes (model P w) A.in1.in1 (GRb false Fin) (GYb false a g Fin) m (.send .none) (s.setGen g .running)) →
      codeAny (model P w) A (.builtin "any.loop" ⟨[.ref a], []⟩) (fun r s' => ∃ b, r = .ok (.ret (.bool b)) ∧ Fin b s') s := by
  intro m
  induction m with
  | zero =>
    intro s hg hl ⟨gs, hgs, hgo⟩
    refine codeAny_builtin
                                                                F.entry_any_loop ?_
    rw [Around.under_plainId
                                                                F.plain_any_loop _]
    show wpAny _ A.in1 (pyNext (.ref a)
                                                                >>= _) _ _ s
    refine wpAny_bind (next_genG (F := fun _ _ s => Fin false s) (Er := fun _ _ => False) (A := A.in1) hh hl hd hg hgs hgo (fun v s₁ gs' hbare hv => ?_) (fun s₁ hp h' hk => ?_) fun e s₁ he => he.elim)
    · obtain ⟨b, rfl, _, _, hb, hk⟩ := hv
      refine wpAny_bind (wpAny_holding
                                                                  (wpAny_truthy_bool ?_))
      refine wpAny_bind
                                                                  (wpAny_letGo ?_)
      cases b with
      | false => rw [if_pos rfl] at hk; exact (hk s₁ rfl rfl hb).elim
      | true =>
        rw [if_neg (by decide)] at hk
        simp only [if_true]
        refine wpAny_bind (wpAny_rule (wpAny_pure ⟨true, rfl, st _ _ _ hk (fun _ _ e => e) rfl fun z => allBare_setGen z hbare⟩))
    · refine wpAny_bind (wpAny_rule (wpAny_pure ⟨false, rfl, st _ _ _ hp hk rfl fun z => allBare_setGen z rfl⟩))
  | succ m ih =>
    intro s hg hl ⟨gs, hgs, hgo⟩
    have hgl : g < s.gens.size
                                                                := (Array.getElem?_eq_some_iff.mp hgs).1
    refine codeAny_builtin
                                                                F.entry_any_loop ?_
    rw [Around.under_plainId
                                                                F.plain_any_loop _]
    show wpAny _ A.in1 (pyNext (.ref a)
                                                                >>= _) _ _ s
    refine wpAny_bind (wpAny_gsz (n := g + 1) hgl (next_genG (F := fun _ _ s => Fin false s) (Er := fun _ _ => False) (A := A.in1) hh hl hd hg hgs hgo (fun v s₁ gs' hbare hv => ?_) (fun s₁ hp h' hk => ?_) fun e s₁ he => he.elim))
    · intro hsz
      obtain ⟨b, rfl, hg1, hl1, hb, hk⟩ := hv
      have hsz1 : g <
                                                                  s₁.gens.size := by
        have q : (s₁.setGen g gs').gens.size = s₁.gens.size
                                                                    := setGen_size _ _ _
        have hsz' : g + 1 ≤
                                                                    (s₁.setGen g gs').gens.size := hsz
        omega
      refine wpAny_bind (wpAny_holding
                                                                  (wpAny_truthy_bool ?_))
      refine wpAny_bind
                                                                  (wpAny_letGo ?_)
      cases b with
      | false =>
        rw [if_pos rfl] at hk
        simp only
                                                                    [Bool.false_eq_true, if_false]
        refine wpAny_pure ⟨plainId_quiet F.plain_any_loop _, ih _ hg1 hl1 ⟨gs', setGen_at hsz1, ?_⟩⟩
        exact hk _ rfl rfl (allBare_setGen (s := s₁.setGen g gs') (allBare_setGen hb hbare) rfl)
      | true =>
        rw [if_neg (by decide)] at hk
        simp only [if_true]
        refine wpAny_bind (wpAny_rule (wpAny_pure ⟨true, rfl, st _ _ _ hk (fun _ _ e => e) rfl fun z => allBare_setGen z hbare⟩))
    · intro hsz
      refine wpAny_bind (wpAny_rule (wpAny_pure ⟨false, rfl, st _ _ _ hp hk rfl fun z => allBare_setGen z rfl⟩))
end

/-! ### the rule -/
theorem over_gen {A : Around} {elt : Expr} {gs : List Comprehension} {sc : Scope} {pos : Pos} {it acc : Value} {env : Env} : A.over (.compLoop (.GeneratorExp elt gs sc pos) 0 it acc env) [] = A.deeper env := by
  first
    | rfl
    | (obtain ⟨hd, d, fr, gs, u⟩ := A; simp [Around.over, Around.deeper, marksOver, frameCount, unitsOf,
                                                                envsOf, guardsOf, pushEnvs, pushGuards, Code.envs, Code.env?, Code.isFrame, Code.guards, Code.isGuard, Code.weight, Code.frames, Code.isCreation, Code.isCaller, Code.cUnits])
theorem over_gen0 {A : Around} {elt : Expr} {gs : List Comprehension} {sc : Scope} {pos : Pos} {it acc : Value} {env : Env} : A.over (.compStart (.GeneratorExp elt gs sc pos) 0 it acc env) [] = A.deeper env := by
  first
    | rfl
    | (obtain ⟨hd, d, fr, gs, u⟩ := A; simp [Around.over, Around.deeper, marksOver, frameCount, unitsOf,
                                                                envsOf, guardsOf, pushEnvs, pushGuards, Code.envs, Code.env?, Code.isFrame, Code.guards, Code.isGuard, Code.weight, Code.frames, Code.isCreation, Code.isCaller, Code.cUnits])
/-- all(..), k; any(..), not k. c', P': the generator's own code object, its table -/
def tGen (base : Heap) (cd : Value) (k : Bool) (wi : TI) (g : Addr → Addr → TG) (tt : Addr → Addr → TT) (te : Addr → Addr → TE) (vs : List Nat) : TE := fun σ H Q => wi σ H fun J H1 => (∃ c P, cd = .ref c ∧ Kc base H1 c P) ∧
  ∀ c' P' H2, ExtT H1 H2 → H2 c' = some (CdO c' P') → GT H2 P' → ∃ W : Nat → Nat → Hp → Prop, (∃ m, W 0 m H2) ∧ ∀ i m H, W i m H →
  (J.stop i H ∧ Q (.bl k) H) ∨ (J.go i H ∧ ∃ Nx : Hp → Prop, (∀ H', Nx H' → ∃ m', m' < m ∧ W (i + 1) m' H') ∧ ∀ x H', J.yld i H x H' → g c' P' x (wipe σ vs) H' fun σ2 H2 => wipe σ2 vs = wipe σ vs ∧ tt c' P' σ2 H2 fun b H3 =>
    if b = true then te c' P' σ2 H3 fun y H4 => ∃ b', y = .bl b' ∧ if b' = k then Nx H4 else Q (.bl b') H4 else Nx H3)
section
variable {X : Cx} {pins : List (Addr × Obj)}
                                                            {σ : L2.St} {H : Hp} {s : Shared}
/-- the surroundings of the generator's parts -/
def Parts (X : Cx) (scope : Scope) (φ : Addr → Addr → Cx → Prop) : Prop := ∀ (s : Shared) (H : Hp) (c' P' : Addr) (cenv : Env) (fp : List Addr) (pn : List (Addr × Obj)), GenE X scope (.ref c') cenv → φ c' P' (gen X s H (X.A.in1.in1.deeper cenv) scope cenv fp pn)
theorem gen_made {k : Bool} {elt tg iter : Expr} {ifs : List Expr} {scope : Scope} {own : List (Str × Nat)} {gpos : Pos} {wi : TI} {g : Addr → Addr → TG} {tt : Addr → Addr → TT} {te : Addr → Addr → TE} {Q : VK}
    (hr : Room 4 X.A) (hc : X.calm = true) (hN : X.N.Nodup) (BM : ∃ P, X.base.BuiltinsAt X.mg P) (I : Inv X pins σ H s) (hi : PI X tg iter wi) (ok : BlkOk X.N X.env.scope scope own) (hco : scope.isCoroutine = false) (h0 : scope.names.lookup (".0" : Str) = some NameKind.local)
    (hg : Parts X scope fun c' P' Y => PG Y tg (g c' P')) (ht : Parts X scope fun c' P' Y => PTs Y ifs (tt c' P')) (he : Parts X scope fun c' P' Y => PE Y elt (te c' P')) (hs : ∀ x, genFold iter X.env x = pure x)
    (h : tGen X.base X.env.code k wi g tt te (own.map (·.2)) σ H Q) :
    wpAny (model X.prog X.w) X.A (eval (.GeneratorExp elt [⟨tg, iter, ifs, 0⟩] scope gpos) X.env) (fun v s5 => ∃ (a : Addr) (gi : Nat) (Fin : Bool → Shared → Prop) (m : Nat), v = .ref a ∧ Stab Fin ∧ s5.heap.IsGen a gi ∧ s5.heap.NoLimit ∧
      (∃ gs, s5.gens[gi]? = some gs ∧ gs.Goes (model X.prog X.w) X.A.in1.in1 (GRb k Fin) (GYb k a gi Fin) m (.send .none) (s5.setGen gi .running)) ∧ ∀ b s', Fin b s' → EP X pins σ Q (.bool b) s') X.xe s := by
  have hfree : ∀ y ∈ scope.names, y.2 = .free → ∃ c,
                                                              X.env.cells.lookup y.1 = some c := fun y hy e => by
    rcases ok.free y hy e
                                                                with k | k
    · exact I.ok.has _ (.inl k)
    · exact I.ok.has _ (.inr k)
  rw [eval_GeneratorExp1 _ _ _ _ _ _ _ hco, closure_ok hfree]
  refine wpAny_bind (thn (hi.run pins s σ H _ I h) fun xv s1 hx => ?_)
  refine wpAny_bind
                                                              (wpAny_standAt ?_)
  refine wpAny_bind (wpAny_of_eq (hs
                                                              xv) ?_)
  refine wpAny_bind (wpAny_holding (thn hx fun itv s2 h2 => ?_))
  obtain ⟨it, fp, tn, J, H2, e, I2, T, st2, f2, ⟨c, P, hcd, kc⟩, q⟩ := h2
  subst e
  refine wpAny_bind (wpAny_enterFrame I2.nolimit hr.depth ?_)
  refine wpAny_bind
                                                              (wpAny_pure ?_)
  refine wpAny_bind (gen_code I2 hcd kc fun c' P' H3 s3 I3 ext3 hc' hP' kp3 sz3 none3 => ?_)
  obtain ⟨ps0, hP0, _⟩ := kc.2.at
  obtain ⟨Pb, bm, ob, b1, b2, b3, b4, b5, b6, b7, b8⟩ := BM
  refine wpAny_bind (wpAny_builtinsFor (m := X.mg) (by rw [I3.ok.glob]; exact I3.mod.glob.keeps I3.bk) b1 b2 (I3.bk _ _ b5) b6 b7 b8 ?_)
  refine wpAny_bind (newEnv_gen h0 ok.kind fun h4 tk4 hns hsb => ?_)
  generalize hce : newEnv scope s3.heap.objs.size X.env.globals (cellsFrom (s3.heap.objs.size + 1) scope.names (cloFrom X.env.cells scope.names [])) (X.env.qual ++ "<genexpr>.") none (.ref c') none builtinsNs = ce
  have cL : ce.locals = s3.heap.objs.size :=
                                                              by subst hce; rfl
  have cC : ce.cells = cellsFrom (s3.heap.objs.size + 1) scope.names (cloFrom X.env.cells scope.names []) := by subst hce; rfl
  have ge : GenE X scope (.ref c') ce := by subst hce; exact ⟨rfl, rfl, rfl, rfl, rfl⟩
  simp only
                                                              [newGenerator, newFields]
  refine wpAny_bind (wpAny_newGen (wpAny_bind (wpAny_mkText (wpAny_bind
                                                              (wpAny_mkText (wpAny_newObj_type ?_ (by size_fits)))))))
  obtain ⟨W, ⟨m0, w0⟩, turn⟩ := q c' P' H3 ext3 hc' hP'
  -- the generator's object
  generalize hgo : ({ cls := .type "generator", data := .fields #[rawInt s3.gens.size, .str "<genexpr>" tk4, .str (X.env.qual ++ "<genexpr>") (tk4 + 1)] } : Obj) = go
  have sz4 : s3.heap.objs.size + 1 ≤ h4.objs.size := by
    rw [hsb.1]
    have := pushCells_size scope.names (s3.heap.push { cls := .type "frame", data := .dict #[] })
    rw [Heap.size_push] at this
    exact this
  have kp4 : ∀ b o, s3.heap.get? b = some o → h4.get? b = some o := fun b o e => hsb.extBut b o (Nat.ne_of_lt (Heap.lt_size e)) (pushCells_keeps _ _ _ _ (Heap.get?_push_of_some _ e))
  generalize hs5 : ({ s3 with gens := s3.gens.push (.fresh (.compStart (.GeneratorExp elt [⟨tg, iter, ifs, 0⟩] scope gpos) 0 (.ref it) .none ce)), toks := tk4 + 1 + 1, heap := h4.push go } : Shared) = s5
  have hgo' : ({ s3 with gens := s3.gens.push (.fresh (.compStart (.GeneratorExp elt [⟨tg, iter, ifs, 0⟩] scope gpos) 0 (.ref it) .none ce)), toks := tk4 + 1 + 1, heap := h4.push go } : Shared) = s5 := hs5
  have e5h : s5.heap = h4.push go := by rw [← hs5]
  have e5g : s5.gens = s3.gens.push (.fresh (.compStart (.GeneratorExp elt [⟨tg, iter, ifs, 0⟩] scope gpos) 0 (.ref it) .none ce)) := by rw [← hs5]
  have e5o : s5.os = s3.os := by rw [← hs5]
  have hga : s5.heap.get? h4.objs.size = some go := by rw [e5h]; exact Heap.get?_push_size _ (by rw [← hgo]; rfl)
  have kp5 : ∀ b o, s3.heap.get? b = some o → s5.heap.get? b = some o := fun b o e => by rw [e5h]; exact Heap.get?_push_of_some _ (kp4 b o e)
  have isg : ∀ {h : Heap}, h.get? h4.objs.size = some go → h.IsGen h4.objs.size s3.gens.size := fun e => ⟨go, .str "<genexpr>" tk4, .str (X.env.qual ++ "<genexpr>") (tk4 + 1), e, by rw [← hgo], by rw [← hgo]; rfl, by rw [← hgo]⟩
  have bare5 : AllBare s5.gens := by rw [e5g]; exact I3.bare.push rfl
  have f3 : ∀ b ∈ fp, FpOk X pins H3 b ∧ b < s3.heap.objs.size := fun b hb => by
    obtain ⟨o, e, _⟩ := T.obj
                                                                _ _ st2 b hb
    exact ⟨⟨none3 b o e (f2 b hb).1, (f2 b hb).2⟩, Nat.lt_of_lt_of_le (Heap.lt_size e) sz3⟩
  have nfp : ∀ b ∈ fp, b ≠ P := fun b hb z => by
    have := (f2 b hb).1
    rw [z, hP0] at this; cases this
  have st3 : tn 0 s3.heap := T.keep _ _ _ st2 fun b hb o e => kp3 b (nfp b hb) o e
  have st5 : tn 0 s5.heap := T.keep _ _ _ st3 fun b _ o e => kp5 b o e
  have hAh : (X.A.in1.in1.deeper ce).handled = none := hr.hd
  have hAf : (X.A.in1.in1.deeper ce).frames = some (ce :: X.stack) := Around.frames_deeper (by exact I.ok.frames)
  have I5 : Inv (gen X s3 H3 (X.A.in1.in1.deeper ce) scope ce fp [(h4.objs.size, go)]) [] (wipe σ (own.map (·.2))) H3 s5 :=
    gen_start I3 ok hN f3 ge cL cC kp5 (fun b o hb e => by rw [e5h]; exact Heap.get?_push_of_some _ (hsb.extBut b o hb e)) (by rw [e5h]; exact hns.push _) e5o bare5 hAh hAf fun p hp => by
      rw [List.mem_singleton.mp hp]
      exact ⟨hga, Nat.lt_of_succ_le sz4, fun v z => by rw [← hgo] at z; cases z⟩
  have pg := hg s3 H3 c' P' ce fp [(h4.objs.size, go)] ge
  have pt := ht s3 H3 c' P' ce fp [(h4.objs.size, go)] ge
  have pe := he s3 H3 c' P' ce fp [(h4.objs.size, go)] ge
  generalize hY : gen X s3 H3 (X.A.in1.in1.deeper ce) scope ce fp [(h4.objs.size, go)] = Y at I5 pg pt pe
  have yA : Y.A = X.A.in1.in1.deeper ce := by rw [← hY]
  have yp : Y.prog = X.prog := by rw [← hY]
  have yw : Y.w = X.w := by rw [← hY]
  have yK : Y.K = X.K := by rw [← hY]
  have yc : Y.calm = true := by rw [← hY]; exact hc
  have yx : Y.xe = fun _ _ => False := by rw [← hY]
  have ye : Y.env = ce := by rw [← hY]
  have yfs : Y.fs = frs X.stack := by rw [← hY]
  have yex : Y.ex = fp := by rw [← hY]
  have y0 : Y.s_0 = s3 := by rw [← hY]
  have yH : Y.H_0 = H3 := by rw [← hY]
  have ypn : Y.pn = [(h4.objs.size, go)] := by rw [← hY]
  let Fin : Bool → Shared → Prop := fun b s' => ∃ H', s'.os = s3.os ∧ AllBare s'.gens ∧ Un (frs X.stack) fp H3 H' s3.heap s'.heap ∧ HOk X.prog X.w H' s'.heap ∧ Q (.bl b) H'
  have fin_of : ∀ {b : Bool} {pl : List (Addr × Obj)} {σ' : L2.St} {H' : Hp} {s' : Shared}, Inv Y pl σ' H' s' → Q (.bl b) H' → Fin b s' := fun {b pl σ' H' s'} J hq =>
    ⟨H', by have := J.os; rw [y0] at this; exact this, J.bare, by have := J.base; rw [yfs, yex, yH, y0] at this; exact this, by have := J.hok; rw [yp, yw] at this; exact this, hq⟩
  have nfp5 : ∀ b ∈ fp, H3 b = none := fun b hb => (f3 b hb).1.1
  have stat : ∀ {σ' : L2.St} {H' : Hp} {s' : Shared}, Inv Y [] σ' H' s' → (∀ b ∈ fp, H' b = none) → ∀ b ∈ fp, FpOk Y [] H' b := fun {σ' H' s'} I' hn b hb => by
    have hbx : b ∈ Y.ex := by rw [yex]; exact hb
    refine ⟨hn b hb, (I'.ok.exf b hbx).1, I'.ok.exfs b hbx, .inl hbx, fun x c e => (I'.ok.exf b hbx).2 x c e, fun p hp => ?_⟩
    rw [ypn] at hp
    have hp : p = (h4.objs.size, go) := by simpa using hp
    rw [hp]
    exact Nat.ne_of_gt (Nat.lt_trans (f3 b hb).2 (Nat.lt_of_succ_le sz4))
  have pin : ∀ {pl : List (Addr × Obj)} {σ' : L2.St} {H' : Hp} {s' : Shared}, Inv Y pl σ' H' s' → s'.heap.IsGen h4.objs.size s3.gens.size := fun {pl σ' H' s'} J =>
    isg (J.pin (h4.objs.size, go) (List.mem_append_left _ (by rw [ypn]; exact List.mem_singleton.mpr rfl))).1
  -- the turns
  have turns : ∀ (m n i : Nat) (s₀ s6 : Shared) (H6 : Hp), m < n → W i m H6 → Inv Y [] (wipe σ (own.map (·.2))) H6 s6 → tn i s6.heap → (∀ b ∈ fp, H6 b = none) →
      Seg (model X.prog X.w) X.A.in1.in1 (GRb k Fin) (GYb k h4.objs.size s3.gens.size Fin) n s₀ (.compLoop (.GeneratorExp elt [⟨tg, iter, ifs, 0⟩] scope gpos) 0 (.ref it) .none ce)
        ((model X.prog X.w).den (.compLoop (.GeneratorExp elt [⟨tg, iter, ifs, 0⟩] scope gpos) 0 (.ref it) .none ce)) [] s6 := by
    intro m
    induction m using
                                                                Nat.strongRecOn with
    | ind m ih =>
      intro n i s₀ s6 H6 hmn w6 I6 st6 n6
      show Seg _ _ _ _ _ s₀ _ ((compTurn (.GeneratorExp elt [⟨tg, iter, ifs, 0⟩] scope gpos) 0 (.ref it) .none ce).onRaise (leaving ce)) [] s6
      rw [compTurn_gen,
                                                                  Sem.onRaise_eq_wrap]
      refine seg_bind_wrap
                                                                  (wpAny_standAt ?_)
      refine seg_bind_wrap ?_
      rw [over_gen]
      rcases turn i m H6 w6 with ⟨stop, qq⟩ | ⟨go', Nx, hNx, step⟩
      · have td := T.done Y yp yw yK yc i [] s6 _ H6 (fun _ _ => False) I6 (stat I6 n6) st6 stop
        rw [yA] at td
        refine thnF td fun r s7 ⟨hr', I7⟩ => ?_
        subst hr'
        exact seg_end (.ok .next) (.inl ⟨.inr rfl, fin_of I7 qq⟩)
      · have ti := T.item Y yp yw yK yc i [] s6 _ H6 (fun _ _ => False) I6 (stat I6 n6) st6 go'
        rw [yA] at ti
        refine thnF ti fun r s7 ⟨u, hr', h7⟩ => ?_
        subst hr'
        refine seg_bind_wrap ?_
        rw [over_gen]
        refine thnF h7 fun _ s8 ⟨x, H8, I8, r8, y8, st8, n8⟩ => ?_
        have I8' := I8.pinned (stat I8 n8) (T.obj _ _ st8)
        refine seg_bind_wrap ?_
        rw [over_gen]
        have pg1 := pg.run _ s8 _ H8 x u _ I8' r8 (step x H8 y8)
        rw [yp, yw, yA, yx, ye] at pg1
        refine thnF pg1 fun _ s9 ⟨σ9, H9, I9, hw9, q9⟩ => ?_
        refine seg_bind_wrap ?_
        rw [over_gen]
        have pt1 := pt.run _ s9 σ9 H9 _ I9 q9
        rw [yp, yw, yA, yx, ye] at pt1
        refine thnF pt1 fun b s10 ⟨H10, I10, q10⟩ => ?_
        -- the turn's end
        have nxt : ∀ {n' : Nat} {s₀' s' : Shared} {H' : Hp}, Inv Y ([] ++ pinsAt fp s8.heap) σ9 H' s' → Nx H' → (∀ m', m' < m → m' < n') →
            Seg (model X.prog X.w) X.A.in1.in1 (GRb k Fin) (GYb k h4.objs.size s3.gens.size Fin) n' s₀' (.compLoop (.GeneratorExp elt [⟨tg, iter, ifs, 0⟩] scope gpos) 0 (.ref it) .none ce)
              ((model X.prog X.w).den (.compLoop (.GeneratorExp elt [⟨tg, iter, ifs, 0⟩] scope gpos) 0 (.ref it) .none ce)) [] s' := fun {n' s₀' s' H'} I' nx hn' => by
          obtain ⟨m', hm, w'⟩ :=
                                                                      hNx H' nx
          have pin' : ∀ b ∈ fp, ∀ o, s8.heap.get? b = some o → s'.heap.get? b = some o ∧ H' b = none := fun b hb o e =>
            let z := I'.pin (b, o) (List.mem_append_right _
                                                                        (List.mem_append_right _ (mem_pinsAt hb e)))
            ⟨z.1, z.2.1⟩
          have hl : (wipe σ (own.map (·.2))).length = σ9.length := by rw [← hw9, wipe_length]
          refine ih m' hm n' (i + 1) s₀' s' H' (hn' m' hm) w' ((I'.unpinned (pins := [])).weak hl (fun j v e => ?_)) (T.keep _ _ _ st8 fun b hb o e => (pin' b hb o e).1) fun b hb => ?_
          · rw [← hw9] at e
            exact (wipe_some e).1
          · obtain ⟨o, e, _⟩ := T.obj _ _ st8 b hb
            exact (pin' b hb o e).2
        cases b with
        | false =>
          simp only [Bool.false_eq_true, if_false] at q10 ⊢
          exact seg_again rfl (nxt I10 q10 fun m' hm => Nat.lt_trans hm hmn)
        | true =>
          simp only [if_true] at q10 ⊢
          have hy : ∀ v, yieldOut ce v = yieldValue v := fun v => by simp only [yieldOut, ge.sc, hco, Bool.false_eq_true, if_false]
          simp only [hy]
          rw [Sem.bind_eq_wrap', Sem.bind_eq_wrap',
                                                                      Sem.wrap_wrap, Sem.wrap_wrap]
          refine seg_wrap ?_
          rw [over_gen]
          have pe1 := pe.run _ s10 σ9 H10 _ I10 q10
          rw [yp, yw, yA, yx, ye] at pe1
          refine thnF pe1 fun y s11 ⟨yv, H11, I11, r11, b', e11, q11⟩ => ?_
          subst e11
          have r11' : y = .bool b' := r11
          subst r11'
          obtain ⟨n', rfl⟩ : ∃ n', n = n' + 1 := ⟨n - 1, by omega⟩
          refine seg_at (seg_yield rfl rfl rfl ⟨b', rfl, pin I11, I11.nolimit, I11.bare, ?_⟩)
          by_cases hk : b' = k
          · rw [if_pos hk] at q11 ⊢
            intro s12 h1 h2 h3
            exact seg_again rfl (nxt (inv_same I11 h1 h2 h3) q11 fun m' hm => by omega)
          · rw [if_neg hk] at q11 ⊢
            exact fin_of I11 q11
  have stab : Stab Fin := fun b s s' ⟨H', h1, h2, h3, h4, h5⟩ hk ho hb => ⟨H', ho.trans h1, hb h2, h3.trans (Un.kept hk), h4.kept hk, h5⟩
  suffices main : ∃ (a : Addr) (gi : Nat) (Fin : Bool → Shared → Prop) (m : Nat), Value.ref h4.objs.size = .ref a ∧ Stab Fin ∧ s5.heap.IsGen a gi ∧ s5.heap.NoLimit ∧
      (∃ gs, s5.gens[gi]? = some gs ∧ gs.Goes (model X.prog X.w) X.A.in1.in1 (GRb k Fin) (GYb k a gi Fin) m (.send .none) (s5.setGen gi .running)) ∧ ∀ b s', Fin b s' → EP X pins σ Q (.bool b) s' by
    subst hs5
    subst hgo
    dsimp only
    exact main
  have hgs5 : s5.gens[s3.gens.size]? = some (.fresh (.compStart (.GeneratorExp elt [⟨tg, iter, ifs, 0⟩] scope gpos) 0 (.ref it) .none ce)) := by rw [e5g]; exact Array.getElem?_push_size ..
  have lim5 : s5.heap.NoLimit := I3.nolimit.keeps kp5
  refine ⟨h4.objs.size, s3.gens.size, Fin, m0 + 1, rfl, stab, isg hga, lim5, ⟨_, hgs5, rfl, ?_⟩, fun b s' ⟨H', h1, h2, h3, h4', h5⟩ => ?_⟩
  · have loop : ∀ (s₀ : Shared), Seg (model X.prog X.w) X.A.in1.in1 (GRb k Fin) (GYb k h4.objs.size s3.gens.size Fin) (m0 + 1) s₀ (.compLoop (.GeneratorExp elt [⟨tg, iter, ifs, 0⟩] scope gpos) 0 (.ref it) .none ce)
        ((model X.prog X.w).den (.compLoop (.GeneratorExp elt [⟨tg, iter, ifs, 0⟩] scope gpos) 0 (.ref it) .none ce)) [] (s5.setGen s3.gens.size .running) := fun s₀ =>
      turns m0 (m0 + 1) 0 s₀ _ H3 (Nat.lt_succ_self _) w0 (inv_same I5 rfl rfl (allBare_setGen bare5 rfl)) st5 nfp5
    generalize hs6 : s5.setGen s3.gens.size .running = s6 at loop ⊢
    have st6 : tn 0 s6.heap := by rw [← hs6]; exact st5
    show Seg _ _ _ _ _ s6 _ ((compStart (.GeneratorExp elt [⟨tg, iter, ifs, 0⟩] scope gpos) 0 (.ref it) .none ce).onRaise (leaving ce)) [] s6
    unfold compStart
    rw [Sem.onRaise_eq_wrap]
    show Seg _ _ _ _ _ s6 _ ((ask >>= _).wrap _ _ _ _) [] s6
    refine seg_bind_wrap
                                                                (wpAny_askSetting ?_)
    split
    · exact seg_again rfl (loop s6)
    · first
        | exact seg_bind_wrap (wpAny_rule (seg_bind_wrap (wpAny_standAt (seg_bind_wrap (T.self _ 0 s6 _ _ st6 (seg_again rfl (loop s6)))))))
        | (refine seg_bind_wrap (wpAny_rule ?_); show Seg _ _ _ _ _ s6 _ ((standAt iter.pos >>= _).wrap _ _ _ _) [] s6; exact seg_bind_wrap (wpAny_standAt (seg_bind_wrap (T.self _ 0 s6 _ _ st6 (seg_again rfl (loop s6))))))
  · exact ⟨.bl b, H', I3.call' (ch := fp) h1 h3 h4' h2 fun b hb => ⟨(f3 b hb).1.2.2.2.1, (f3 b hb).1.2.1, (f3 b hb).1.2.2.2.2.1, (f3 b hb).1.2.2.2.2.2⟩, rfl, h5⟩
theorem pe_all {elt tg iter : Expr} {ifs : List Expr} {scope : Scope} {own : List (Str × Nat)} {p pos gpos : Pos} {wi : TI} {g : Addr → Addr → TG} {tt : Addr → Addr → TT} {te : Addr → Addr → TE}
    (hr : Room 4 X.A) (hc : X.calm = true) (hN : X.N.Nodup) (BM : ∃ P, X.base.BuiltinsAt X.mg P) (hgl : Gl X "all") (hm : X.mg "all" = none) (hi : PI X tg iter wi) (ok : BlkOk X.N X.env.scope scope own) (hco : scope.isCoroutine = false) (h0 : scope.names.lookup (".0" : Str) = some NameKind.local)
    (hg : Parts X scope fun c' P' Y => PG Y tg (g c' P')) (ht : Parts X scope fun c' P' Y => PTs Y ifs (tt c' P')) (he : Parts X scope fun c' P' Y => PE Y elt (te c' P')) (hs : ∀ x, genFold iter X.env x = pure x)
    (hse : starEach [.GeneratorExp elt [⟨tg, iter, ifs, 0⟩] scope gpos] X.env = (false, eval (.GeneratorExp elt [⟨tg, iter, ifs, 0⟩] scope gpos) X.env) :: starEach [] X.env := by rfl) :
    PE X (.Call (.Name "all" p) [.GeneratorExp elt [⟨tg, iter, ifs, 0⟩] scope gpos] [] pos) (tGen X.base X.env.code true wi g tt te (own.map (·.2))) := by
  refine ⟨fun pins s σ H
                                                              Q I h => ?_⟩
  refine wpAny_Call_Name_kw (ld_blt I hgl hm (by first | rfl | kernel_rfl | decide) ?_)
  refine PyProof.Rows.callWith_builtin1 ?_ hse (by rfl)
  rw [hse]
  show wpAny _ _ (spliced ((false, eval (.GeneratorExp elt [⟨tg, iter, ifs, 0⟩] scope gpos) X.env) :: backTo pos (starEach [] X.env))) _ _ s
  refine Calls.spliced_cons (thn (gen_made hr hc hN BM I hi ok hco h0 hg ht he hs h) fun v s5 ⟨a, gi, Fi, m, e, st, ig, nl, go, hf⟩ => ?_)
  subst e
  refine Calls.spliced_nil ?_
  refine call_function_tree F.kind_all F.plain_all F.entry_all
                                                              (F.args_all1 _) ?_
  unfold Builtin.«all»
  refine wpAny_bind (m := oneArg
                                                              "all" _) (wpAny_pure ?_)
  refine wpAny_bind (wpAny_pyIter_gen ig (wpAny_pure ⟨plainId_quiet F.plain_all_loop _, codeAny_mono (drain_all hr.hd hr.depth st m s5 ig nl go) fun r s' ⟨b, e, hq⟩ => ?_⟩))
  subst e
  exact hf b s' hq
theorem pe_any {elt tg iter : Expr} {ifs : List Expr} {scope : Scope} {own : List (Str × Nat)} {p pos gpos : Pos} {wi : TI} {g : Addr → Addr → TG} {tt : Addr → Addr → TT} {te : Addr → Addr → TE}
    (hr : Room 4 X.A) (hc : X.calm = true) (hN : X.N.Nodup) (BM : ∃ P, X.base.BuiltinsAt X.mg P) (hgl : Gl X "any") (hm : X.mg "any" = none) (hi : PI X tg iter wi) (ok : BlkOk X.N X.env.scope scope own) (hco : scope.isCoroutine = false) (h0 : scope.names.lookup (".0" : Str) = some NameKind.local)
    (hg : Parts X scope fun c' P' Y => PG Y tg (g c' P')) (ht : Parts X scope fun c' P' Y => PTs Y ifs (tt c' P')) (he : Parts X scope fun c' P' Y => PE Y elt (te c' P')) (hs : ∀ x, genFold iter X.env x = pure x)
    (hse : starEach [.GeneratorExp elt [⟨tg, iter, ifs, 0⟩] scope gpos] X.env = (false, eval (.GeneratorExp elt [⟨tg, iter, ifs, 0⟩] scope gpos) X.env) :: starEach [] X.env := by rfl) :
    PE X (.Call (.Name "any" p) [.GeneratorExp elt [⟨tg, iter, ifs, 0⟩] scope gpos] [] pos) (tGen X.base X.env.code false wi g tt te (own.map (·.2))) := by
  refine ⟨fun pins s σ H
                                                              Q I h => ?_⟩
  refine wpAny_Call_Name_kw (ld_blt I hgl hm (by first | rfl | kernel_rfl | decide) ?_)
  refine PyProof.Rows.callWith_builtin1 ?_ hse (by rfl)
  rw [hse]
  show wpAny _ _ (spliced ((false, eval (.GeneratorExp elt [⟨tg, iter, ifs, 0⟩] scope gpos) X.env) :: backTo pos (starEach [] X.env))) _ _ s
  refine Calls.spliced_cons (thn (gen_made hr hc hN BM I hi ok hco h0 hg ht he hs h) fun v s5 ⟨a, gi, Fi, m, e, st, ig, nl, go, hf⟩ => ?_)
  subst e
  refine Calls.spliced_nil ?_
  refine call_function_tree F.kind_any F.plain_any F.entry_any
                                                              (F.args_any1 _) ?_
  unfold Builtin.«any»
  refine wpAny_bind (m := oneArg
                                                              "any" _) (wpAny_pure ?_)
  refine wpAny_bind (wpAny_pyIter_gen ig (wpAny_pure ⟨plainId_quiet F.plain_any_loop _, codeAny_mono (drain_any hr.hd hr.depth st m s5 ig nl go) fun r s' ⟨b, e, hq⟩ => ?_⟩))
  subst e
  exact hf b s' hq
end
end GX

/-! MP: how plain data lie in the abstract heap; the state of a body. -/
namespace MP
open PySem
open PySem.Spec
open PyProof.Rows
open L2

section
variable (K : PySem.W.Frag) (W : Addr → Prop) (ρ : List Addr) (H : Hp)
mutual
inductive Rep : V → D → Prop
  | non : Rep .non .non
  | bl (b : Bool) : Rep (.bl b) (.bl b)
  | int (i : Int) : Rep (.int i) (.int i)
  | str (z : Str) : Rep (.str z) (.str z.cps.toList)
  | tup {a : Addr} {vs : List V} {ds : List D} : SqT K H a vs → Reps vs ds → Rep (.ref a) (.tup ds)
  | lst {a : Addr} {vs : List V} {ds : List D} : Rd H a (.lst vs) → ¬ W a → Reps vs ds → Rep (.ref a) (.lst ds)
  | ref {a : Addr} {n : Nat} : ρ[n]? = some a → Rep (.ref a) (.ref n)
inductive Reps : List V → List D → Prop
  | nil : Reps [] []
  | cons {v : V} {d : D} {vs : List V} {ds : List D} : Rep v d → Reps vs ds → Reps (v :: vs) (d :: ds)
end
end
section
variable {K : PySem.W.Frag} {W W' : Addr → Prop} {ρ ρ' : List Addr} {H H' : Hp}
mutual
theorem Rep.map (ht : ∀ a vs, SqT K H a vs → SqT K H' a vs) (hl : ∀ a vs, ¬ W a → Rd H a (.lst vs) → ¬ W' a ∧ Rd H' a (.lst vs)) (hr : ∀ (n : Nat) (a : Addr), ρ[n]? = some a → ρ'[n]? = some a) :
    ∀ {v : V} {d : D}, Rep K W ρ H v d → Rep K W' ρ' H' v d
  | _, _, .non => .non
  | _, _, .bl b => .bl b
  | _, _, .int i => .int i
  | _, _, .str z => .str z
  | _, _, .tup h r => .tup (ht _ _ h) (Reps.map ht hl hr r)
  | _, _, .lst h n r => .lst (hl _ _ n h).2 (hl _ _ n h).1 (Reps.map ht hl hr r)
  | _, _, .ref h => .ref (hr _ _ h)
theorem Reps.map (ht : ∀ a vs, SqT K H a vs → SqT K H' a vs) (hl : ∀ a vs, ¬ W a → Rd H a (.lst vs) → ¬ W' a ∧ Rd H' a (.lst vs)) (hr : ∀ (n : Nat) (a : Addr), ρ[n]? = some a → ρ'[n]? = some a) :
    ∀ {v : List V} {d : List D}, Reps K W ρ H v d → Reps K W' ρ' H' v d
  | _, _, .nil => .nil
  | _, _, .cons h r => .cons (Rep.map ht hl hr h) (Reps.map ht hl hr r)
end
theorem Reps.len {vs : List V} {ds : List D} (r : Reps K W ρ H vs ds) : vs.length = ds.length := by
  induction ds generalizing vs with
  | nil => cases r; rfl
  | cons d ds ih => cases r with | cons h r => simp [ih r]
theorem Reps.get {vs : List V} {ds : List D} (r : Reps K W ρ H vs ds) {i : Nat} {d : D} (h : ds[i]? = some d) : ∃ v, vs[i]? = some v ∧ Rep K W ρ H v d := by
  induction ds generalizing vs i with
  | nil => simp at h
  | cons e ds ih =>
    cases r with
    | cons p r =>
      cases i with
      | zero => simp at h; subst h; exact ⟨_, rfl, p⟩
      | succ i => simpa using ih r (by simpa using h)
theorem Reps.get' {vs : List V} {ds : List D} (r : Reps K W ρ H vs ds) {i : Nat} {v : V} (h : vs[i]? = some v) : ∃ d, ds[i]? = some d ∧ Rep K W ρ H v d := by
  induction vs generalizing ds i with
  | nil => simp at h
  | cons e vs ih =>
    cases r with
    | cons p r =>
      cases i with
      | zero => simp at h; subst h; exact ⟨_, rfl, p⟩
      | succ i => simpa using ih r (by simpa using h)
theorem Reps.app {vs ws : List V} {ds es : List D} (r : Reps K W ρ H vs ds) (q : Reps K W ρ H ws es) : Reps K W ρ H (vs ++ ws) (ds ++ es) := by
  induction ds generalizing vs with
  | nil => cases r; exact q
  | cons d ds ih => cases r with | cons h r => exact .cons h (ih r)
theorem Reps.set {vs : List V} {ds : List D} (r : Reps K W ρ H vs ds) {v : V} {d : D} (q : Rep K W ρ H v d) (i : Nat) : Reps K W ρ H (vs.set i v) (ds.set i d) := by
  induction ds generalizing vs i with
  | nil => cases r; exact .nil
  | cons e ds ih =>
    cases r with
    | cons h r =>
      cases i with
      | zero => exact .cons q r
      | succ i => exact .cons h (ih r i)
theorem Reps.erase {vs : List V} {ds : List D} (r : Reps K W ρ H vs ds) (i : Nat) : Reps K W ρ H (vs.eraseIdx i) (ds.eraseIdx i) := by
  induction ds generalizing vs i with
  | nil => cases r; exact .nil
  | cons e ds ih =>
    cases r with
    | cons h r =>
      cases i with
      | zero => exact r
      | succ i => exact .cons h (ih r i)
theorem Reps.take {vs : List V} {ds : List D} (r : Reps K W ρ H vs ds) (i : Nat) : Reps K W ρ H (vs.take i) (ds.take i) := by
  induction ds generalizing vs i with
  | nil => cases r; simp; exact .nil
  | cons e ds ih =>
    cases r with
    | cons h r =>
      cases i with
      | zero => exact .nil
      | succ i => exact .cons h (ih r i)
theorem Reps.drop {vs : List V} {ds : List D} (r : Reps K W ρ H vs ds) (i : Nat) : Reps K W ρ H (vs.drop i) (ds.drop i) := by
  induction ds generalizing vs i with
  | nil => cases r; simp; exact .nil
  | cons e ds ih =>
    cases r with
    | cons h r =>
      cases i with
      | zero => exact .cons h r
      | succ i => exact ih r i
theorem Reps.rep {vs : List V} {ds : List D} (r : Reps K W ρ H vs ds) : ∀ k : Nat, Reps K W ρ H (List.replicate k vs).flatten (List.replicate k ds).flatten
  | 0 => .nil
  | k + 1 => by rw [List.replicate_succ, List.replicate_succ, List.flatten_cons, List.flatten_cons]; exact r.app (Reps.rep r k)
theorem Reps.cut {vs : List V} {ds : List D} (r : Reps K W ρ H vs ds) (lo hi : Option Int) : Reps K W ρ H (cutV vs lo hi) (cutD ds lo hi) := by
  unfold cutV cutD
  rw [r.len]
  exact (r.drop _).take _
theorem Reps.at {vs : List V} {ds : List D} (r : Reps K W ρ H vs ds) {i : Int} {d : D} (h : atI ds i = some d) : ∃ v, atI vs i = some v ∧ Rep K W ρ H v d := by
  unfold atI at h ⊢
  rw [r.len]
  cases e : ixN ds.length i with
  | none => rw [e] at
                                                              h; cases h
  | some j =>
    rw [e] at h
    exact r.get h

/-! ### changes of the heap -/
theorem sqT_laid {a p : Addr} {o : HO} {vs : List V} (hp : H p = none) (h : SqT K H a vs) : SqT K (upd H p o) a vs := by
  rcases h with (h | ⟨ob, h⟩) | h
  · exact .inl (.inl (by rw [upd_ne (ne_of_none h hp)]; exact h))
  · exact .inl (.inr ⟨ob, by rw [upd_ne (ne_of_none h hp)]; exact h⟩)
  · exact .inr h
theorem rd_laid {a p : Addr} {o u : HO} (hp : H p = none) (h : Rd H a u) : Rd (upd H p o) a u := by
  rcases h with h | ⟨ob, h⟩
  · exact .inl (by rw [upd_ne (ne_of_none h hp)]; exact h)
  · exact .inr ⟨ob, by rw [upd_ne (ne_of_none h hp)]; exact h⟩
theorem sqT_chg {a p : Addr} {o : HO} {vs ws : List V} (hp : H p = some (.lst ws)) (h : SqT K H a vs) : SqT K (upd H p o) a vs := by
  rcases h with (h | ⟨ob, h⟩) | h
  · exact .inl (.inl (by rw [upd_ne (ne_of h hp (by intro z; cases z))]; exact h))
  · exact .inl (.inr ⟨ob, by rw [upd_ne (ne_of h hp (by intro z; cases z))]; exact h⟩)
  · exact .inr h
theorem rd_ne {a p : Addr} {o u : HO} (hp : a ≠ p) (h : Rd H a u) : Rd (upd H p o) a u := by
  rcases h with h | ⟨ob, h⟩
  · exact .inl (by rw [upd_ne hp]; exact h)
  · exact .inr ⟨ob, by rw [upd_ne hp]; exact h⟩
theorem Rep.laid {p : Addr} {o : HO} (hp : H p = none) {v : V} {d : D} (h : Rep K W ρ H v d) : Rep K W ρ (upd H p o) v d :=
  h.map (fun _ _ => sqT_laid hp) (fun _ _ n r => ⟨n, rd_laid hp r⟩) fun _ _ h => h
theorem Reps.laid {p : Addr} {o : HO} (hp : H p = none) {v : List V} {d : List D} (h : Reps K W ρ H v d) : Reps K W ρ (upd H p o) v d :=
  h.map (fun _ _ => sqT_laid hp) (fun _ _ n r => ⟨n, rd_laid hp r⟩) fun _ _ h => h
theorem Rep.chg {p : Addr} {o : HO} {ws : List V} (hw : W p) (hp : H p = some (.lst ws)) {v : V} {d : D} (h : Rep K W ρ H v d) : Rep K W ρ (upd H p o) v d :=
  h.map (fun _ _ => sqT_chg hp) (fun a _ n r => ⟨n, rd_ne (fun e => n (e ▸ hw)) r⟩) fun _ _ h => h
theorem Reps.chg {p : Addr} {o : HO} {ws : List V} (hw : W p) (hp : H p = some (.lst ws)) {v : List V} {d : List D} (h : Reps K W ρ H v d) : Reps K W ρ (upd H p o) v d :=
  h.map (fun _ _ => sqT_chg hp) (fun a _ n r => ⟨n, rd_ne (fun e => n (e ▸ hw)) r⟩) fun _ _ h => h
/-- the protected set -/
def addW (W : Addr → Prop) (p : Addr) : Addr → Prop := fun a => W a ∨ a = p
theorem rd_some {a : Addr} {u : HO} (h : Rd H a u) : H a ≠ none := by
  rcases h with h | ⟨ob, h⟩ <;> rw [h] <;> simp
theorem grow_l {p : Addr} (hp : H p = none) : ∀ (a : Addr) (vs : List V), ¬ W a → Rd H a (.lst vs) → ¬ addW W p a ∧ Rd H a (.lst vs) := fun a vs n r =>
  ⟨fun e => e.elim n fun e => rd_some r (e ▸ hp), r⟩
theorem Rep.grow {p : Addr} (hp : H p = none) {v : V} {d : D} (h : Rep K W ρ H v d) : Rep K (addW W p) ρ H v d :=
  h.map (fun _ _ h => h) (grow_l hp) fun _ _ h => h
theorem Reps.grow {p : Addr} (hp : H p = none) {v : List V} {d : List D} (h : Reps K W ρ H v d) : Reps K (addW W p) ρ H v d :=
  h.map (fun _ _ h => h) (grow_l hp) fun _ _ h => h
end

/-! ### tables -/
def NT (u : HO) : Prop := ∀ ps, u ≠ .tbl ps
abbrev IsTb (H : Hp) (P : Addr) : Prop := GX.GT H P
theorem nt_lst {vs : List V} : NT (.lst vs) := fun _ z => by cases z
theorem nt_tup {vs : List V} : NT (.tup vs) := fun _ z => by cases z
/-- tables and code objects are the same -/
structure Ups (H H' : Hp) : Prop where
  up : ∀ b u, H b = some u → ((∃ ps, u = .tbl ps) ∨ ∃ c P, u = GX.CdO c P) → H' b = some u
theorem Ups.tb {H H' : Hp} (u : Ups H H') {P : Addr} : IsTb H P → IsTb H' P := fun g => g.up u.up
theorem Ups.kc {H H' : Hp} (u : Ups H H') {base : Heap} {c P : Addr} (k : GX.Kc base H c P) : GX.Kc base H' c P :=
  ⟨k.1.imp id fun e => u.up _ _ e (.inr ⟨_, _, rfl⟩), u.tb k.2⟩
theorem ups_upd {H : Hp} {p : Addr} {o : HO} (hp : H p = none ∨ ∃ vs, H p = some (.lst vs)) (no : NT o) : Ups H (upd H p o) where
  up := fun b u e t => by
    have nb : b ≠ p := fun z => by
      subst z
      rcases hp with hp | ⟨vs, hp⟩
      · rw [hp] at e; cases e
      · rw [hp] at e
        cases e
        rcases t with ⟨ps, t⟩ | ⟨c, P, t⟩
        · cases t
        · unfold GX.CdO at t; cases t
    rw [upd_ne nb]; exact e
theorem cdO_nt {c P : Addr} : NT (GX.CdO c P) := fun ps => GX.cdO_ne ps
/-! ### the state of a body -/
def ORep (K : PySem.W.Frag) (W : Addr → Prop) (ρ : List Addr) (H : Hp) (a : Addr) : MO → Prop
  | .lst l => ∃ vs, H a = some (.lst vs) ∧ Reps K W ρ H vs l
/-- what is fixed through a body: the written part, the entry -/
structure Bx where
  K : PySem.W.Frag
  W0 : Addr → Prop
  ρ0 : List Addr
  H0 : Hp
  base : Heap
  /-- known code objects and their tables -/
  kc : Addr → Addr → Prop
structure SR (B : Bx) (W : Addr → Prop) (ρ : List Addr) (env : Env) (h : Hh) (σ : L2.St) (H : Hp) : Prop where
  len : env.length = σ.length
  val : ∀ (i : Nat) (d : D), env[i]? = some (.v d) → ∃ v, σ[i]? = some (some v) ∧ Rep B.K W ρ H v d
  own : ∀ (i : Nat) (l : List D), env[i]? = some (.own l) → ∃ a vs, σ[i]? = some (some (.ref a)) ∧ H a = some (.lst vs) ∧ Reps B.K W ρ H vs l ∧ W a ∧ a ∉ ρ ∧ B.H0 a = none
  sep : ∀ (i j : Nat) (l m : List D) (a : Addr), env[i]? = some (.own l) → env[j]? = some (.own m) → σ[i]? = some (some (.ref a)) → σ[j]? = some (some (.ref a)) → i = j
  hl : ρ.length = h.length
  nd : ρ.Nodup
  obj : ∀ (n : Nat) (o : MO) (a : Addr), h[n]? = some o → ρ[n]? = some a → ORep B.K W ρ H a o
  rw : ∀ a ∈ ρ, W a
  wtr : ∀ a, W a → H a ≠ none
  fr : ∀ a u, B.H0 a = some u → NT u → a ∉ B.ρ0 → H a = some u
  pre : B.ρ0 <+: ρ
  new : ∀ a ∈ ρ, a ∈ B.ρ0 ∨ B.H0 a = none
  w0 : ∀ a, B.W0 a → W a
  wn : ∀ a, W a → B.W0 a ∨ B.H0 a = none
  t0 : ∀ a, B.H0 a ≠ none → H a ≠ none
  w1 : ∀ a, B.W0 a → B.H0 a ≠ none
  kcs : ∀ c P, B.kc c P → GX.Kc B.base H c P
  tb : ∀ P, IsTb B.H0 P → IsTb H P
structure Ext (K : PySem.W.Frag) (W : Addr → Prop) (ρ : List Addr) (H : Hp) (W' : Addr → Prop) (ρ' : List Addr) (H' : Hp) : Prop where
  fr : ∀ a u, H a = some u → NT u → a ∉ ρ → H' a = some u
  tr : ∀ a, H a ≠ none → H' a ≠ none
  pre : ρ <+: ρ'
  new : ∀ a ∈ ρ', a ∈ ρ ∨ H a = none
  tp : ∀ a vs, SqT K H a vs → SqT K H' a vs
  ls : ∀ a vs, ¬ W a → Rd H a (.lst vs) → ¬ W' a ∧ Rd H' a (.lst vs)
  wm : ∀ a, W a → W' a
  wn : ∀ a, W' a → W a ∨ H a = none
  tb : ∀ P, IsTb H P → IsTb H' P
theorem pre_get {α : Type} {a b : List α} (h : a <+: b) {n : Nat} {x : α} (e : a[n]? = some x) : b[n]? = some x := by
  obtain ⟨t, rfl⟩ := h
  rw [List.getElem?_append_left (List.getElem?_eq_some_iff.mp e).1]
  exact e
section
variable {K : PySem.W.Frag} {B : Bx} {W W' W2 : Addr → Prop} {ρ ρ' ρ2 : List Addr} {H H' H2 : Hp} {env : Env} {h h' : Hh} {σ : L2.St}
theorem Ext.refl : Ext K W ρ H W ρ H := ⟨fun _ _ h _ _ => h, fun _ h => h, List.prefix_refl _, fun _ h => .inl h, fun _ _ h => h, fun _ _ n h => ⟨n, h⟩, fun _ h => h, fun _ h => .inl h, fun _ h => h⟩
theorem Ext.trans (a : Ext K W ρ H W' ρ' H') (b : Ext K W' ρ' H' W2 ρ2 H2) : Ext K W ρ H W2 ρ2 H2 where
  fr := fun x u e t n => b.fr x u (a.fr x u e t n) t fun z => (a.new x z).elim n fun q => by rw [q] at e; cases e
  tr := fun x e => b.tr x (a.tr x e)
  pre := a.pre.trans b.pre
  new := fun x z => (b.new x z).elim (a.new x) fun q => .inr (by
    cases e : H x with
    | none => rfl
    | some u => exact absurd q (a.tr x (by rw [e]; simp)))
  tp := fun x vs e => b.tp x vs (a.tp x vs e)
  ls := fun x vs n e => let ⟨n', e'⟩ := a.ls x vs n e; b.ls x vs n' e'
  wm := fun x w => b.wm x (a.wm x w)
  wn := fun x w => (b.wn x w).elim (a.wn x) fun q => .inr (by
    cases e : H x with
    | none => rfl
    | some u => exact absurd q (a.tr x (by rw [e]; simp)))
  tb := fun P t => b.tb P (a.tb P t)
theorem Rep.ext (x : Ext K W ρ H W' ρ' H') {v : V} {d : D} (r : Rep K W ρ H v d) : Rep K W' ρ' H' v d := r.map x.tp x.ls fun _ _ => pre_get x.pre
theorem Reps.ext (x : Ext K W ρ H W' ρ' H') {v : List V} {d : List D} (r : Reps K W ρ H v d) : Reps K W' ρ' H' v d := r.map x.tp x.ls fun _ _ => pre_get x.pre
theorem Ext.laid {p : Addr} {o : HO} (hp : H p = none) (ho : NT o := by first | exact nt_lst | exact nt_tup) : Ext K W ρ H W ρ (upd H p o) where
  fr := fun a u e _ _ => by rw [upd_ne (ne_of_none e hp)]; exact e
  tr := fun a e => by
    by_cases q : a = p
    · rw [q, upd_same]; simp
    · rw [upd_ne q]; exact e
  pre := List.prefix_refl _
  new := fun _ h => .inl h
  tp := fun _ _ => sqT_laid hp
  ls := fun _ _ n r => ⟨n, rd_laid hp r⟩
  wm := fun _ w => w
  wn := fun _ w => .inl w
  tb := fun _ t => (ups_upd (.inl hp) ho).tb t
/-- a new object is laid -/
theorem SR.laid (s : SR B W ρ env h σ H) {p : Addr} {o : HO} (hp : H p = none) (ho : NT o := by first | exact nt_lst | exact nt_tup) : SR B W ρ env h σ (upd H p o) where
  len := s.len
  val := fun i d e => let ⟨v, a, b⟩ := s.val i d e; ⟨v, a, b.laid hp⟩
  own := fun i l e => let ⟨a, vs, q1, q2, q3, q4⟩ := s.own i l e; ⟨a, vs, q1, by rw [upd_ne (ne_of_none q2 hp)]; exact q2, q3.laid hp, q4⟩
  sep := s.sep
  hl := s.hl
  nd := s.nd
  obj := fun n o' a e1 e2 => by
    have := s.obj n o' a e1 e2
    cases o' with
    | lst l =>
      obtain ⟨vs, q1, q2⟩ := this
      exact ⟨vs, by rw [upd_ne (ne_of_none q1 hp)]; exact q1, q2.laid hp⟩
  rw := s.rw
  wtr := fun a w => (Ext.laid (K := B.K) (W := W) (ρ := ρ) (o := o) hp ho).tr a (s.wtr a w)
  fr := fun a u e t n => by
    have q := s.fr a u e t n
    rw [upd_ne (ne_of_none q hp)]; exact q
  pre := s.pre
  new := s.new
  w0 := s.w0
  wn := s.wn
  t0 := fun a e => (Ext.laid (K := B.K) (W := W) (ρ := ρ) (o := o) hp ho).tr a (s.t0 a e)
  w1 := s.w1
  kcs := fun c P k => (ups_upd (.inl hp) ho).kc (s.kcs c P k)
  tb := fun P t => (ups_upd (.inl hp) ho).tb (s.tb P t)
theorem SR.notW (s : SR B W ρ env h σ H) {p : Addr} (hp : H p = none) : ¬ W p := fun w => s.wtr p w hp
theorem SR.none0 (s : SR B W ρ env h σ H) {p : Addr} (hp : H p = none) : B.H0 p = none := by
  cases e : B.H0 p with
  | none => rfl
  | some u => exact absurd hp (s.t0 p (by rw [e]; simp))
theorem SR.tup (s : SR B W ρ env h σ H) {p : Addr} {vs : List V} {ds : List D} (hp : H p = none) (r : Reps B.K W ρ H vs ds) : Rep B.K W ρ (upd H p (.tup vs)) (.ref p) (.tup ds) :=
  .tup (.inl (.inl upd_same)) (r.laid hp)
theorem SR.lst (s : SR B W ρ env h σ H) {p : Addr} {vs : List V} {ds : List D} (hp : H p = none) (r : Reps B.K W ρ H vs ds) : Rep B.K W ρ (upd H p (.lst vs)) (.ref p) (.lst ds) :=
  .lst (.inl upd_same) (s.notW hp) (r.laid hp)
theorem get_set {α : Type} {l : List α} {i j : Nat} {x y : α} (hi : i < l.length) (e : (l.set i x)[j]? = some y) : (j = i ∧ y = x) ∨ (j ≠ i ∧ l[j]? = some y) := by
  by_cases q : j = i
  · subst q
    rw [List.getElem?_set_self hi] at e
    exact .inl ⟨rfl, (Option.some.inj e).symm⟩
  · rw [List.getElem?_set_ne (Ne.symm q)] at e
    exact .inr ⟨q, e⟩
/-- a name gets a value -/
theorem SR.setv (s : SR B W ρ env h σ H) {i : Nat} {v : V} {d : D} (hi : i < env.length) (r : Rep B.K W ρ H v d) : SR B W ρ (env.set i (.v d)) h (σ.set i (some v)) H where
  len := by rw [List.length_set, List.length_set]; exact s.len
  val := fun j d' e => by
    rcases get_set hi e with ⟨rfl, e2⟩ | ⟨n, e2⟩
    · cases e2
      exact ⟨v, by rw [List.getElem?_set_self (by rw [← s.len]; exact hi)], r⟩
    · obtain ⟨u, q1, q2⟩ := s.val j d' e2
      exact ⟨u, by rw [List.getElem?_set_ne (Ne.symm n)]; exact q1, q2⟩
  own := fun j l e => by
    rcases get_set hi e with ⟨rfl, e2⟩ | ⟨n, e2⟩
    · cases e2
    · obtain ⟨a, vs, q1, q2⟩ := s.own j l e2
      exact ⟨a, vs, by rw [List.getElem?_set_ne (Ne.symm n)]; exact q1, q2⟩
  sep := fun j k l m a e1 e2 e3 e4 => by
    rcases get_set hi e1 with ⟨rfl, z⟩ | ⟨n1, z1⟩
    · cases z
    · rcases get_set hi e2 with ⟨rfl, z⟩ | ⟨n2, z2⟩
      · cases z
      · rw [List.getElem?_set_ne (Ne.symm n1)] at e3
        rw [List.getElem?_set_ne (Ne.symm n2)] at e4
        exact s.sep j k l m a z1 z2 e3 e4
  hl := s.hl
  nd := s.nd
  obj := s.obj
  rw := s.rw
  wtr := s.wtr
  fr := s.fr
  pre := s.pre
  new := s.new
  w0 := s.w0
  wn := s.wn
  t0 := s.t0
  w1 := s.w1
  kcs := s.kcs
  tb := s.tb
/-- a name is forgotten -/
theorem SR.unset (s : SR B W ρ env h σ H) (i : Nat) : SR B W ρ (env.set i .un) h (σ.set i none) H := by
  by_cases hi : i < env.length
  · exact {
      len := by rw [List.length_set, List.length_set]; exact s.len
      val := fun j d' e => by
        rcases get_set hi e with ⟨rfl, e2⟩ | ⟨n, e2⟩
        · cases e2
        · obtain ⟨u, q1, q2⟩ := s.val j d' e2
          exact ⟨u, by rw [List.getElem?_set_ne (Ne.symm n)]; exact q1, q2⟩
      own := fun j l e => by
        rcases get_set hi e with ⟨rfl, e2⟩ | ⟨n, e2⟩
        · cases e2
        · obtain ⟨a, vs, q1, q2⟩ := s.own j l e2
          exact ⟨a, vs, by rw [List.getElem?_set_ne (Ne.symm n)]; exact q1, q2⟩
      sep := fun j k l m a e1 e2 e3 e4 => by
        rcases get_set hi e1 with ⟨rfl, z⟩ | ⟨n1, z1⟩
        · cases z
        · rcases get_set hi e2 with ⟨rfl, z⟩ | ⟨n2, z2⟩
          · cases z
          · rw [List.getElem?_set_ne (Ne.symm n1)] at e3
            rw [List.getElem?_set_ne (Ne.symm n2)] at e4
            exact s.sep j k l m a z1 z2 e3 e4
      hl := s.hl
      nd := s.nd
      obj := s.obj
      rw := s.rw
      wtr := s.wtr
      fr := s.fr
      pre := s.pre
      new := s.new
      w0 := s.w0
      wn := s.wn
      t0 := s.t0
      w1 := s.w1
      kcs := s.kcs
      tb := s.tb }
  · have e1 : env.set i .un = env := List.set_eq_of_length_le (by omega)
    have e2 : σ.set i none = σ := List.set_eq_of_length_le (by rw [← s.len]; omega)
    rw [e1, e2]; exact s
theorem SR.wipe (s : SR B W ρ env h σ H) : ∀ vs : List Nat, SR B W ρ (wipeE env vs) h (L2.wipe σ vs) H
  | [] => s
  | v :: vs => by unfold wipeE L2.wipe; exact (SR.wipe s vs).unset v
theorem addW_new {p : Addr} (hp : H p = none) : Ext K W ρ H (addW W p) ρ H :=
  ⟨fun _ _ h _ _ => h, fun _ h => h, List.prefix_refl _, fun _ h => .inl h, fun _ _ h => h, grow_l hp, fun _ w => .inl w, fun _ w => w.imp id fun e => by rw [e]; exact hp, fun _ h => h⟩
/-- a new list is protected -/
theorem SR.prot (s : SR B W ρ env h σ H) {p : Addr} {vs : List V} (hp : H p = none) : SR B (addW W p) ρ env h σ (upd H p (.lst vs)) := by
  have s' := s.laid (o := .lst vs) hp
  exact {
    len := s.len
    val := fun i d e => let ⟨v, a, b⟩ := s.val i d e; ⟨v, a, (b.grow hp).laid hp⟩
    own := fun i l e => let ⟨a, ws, q1, q2, q3, q4, q5⟩ := s.own i l e; ⟨a, ws, q1, by rw [upd_ne (ne_of_none q2 hp)]; exact q2, (q3.grow hp).laid hp, .inl q4, q5⟩
    sep := s.sep
    hl := s.hl
    nd := s.nd
    obj := fun n o' a e1 e2 => by
      have := s.obj n o' a e1 e2
      cases o' with
      | lst l =>
        obtain ⟨ws, q1, q2⟩ := this
        exact ⟨ws, by rw [upd_ne (ne_of_none q1 hp)]; exact q1, (q2.grow hp).laid hp⟩
    rw := fun a z => .inl (s.rw a z)
    wtr := fun a w => w.elim (s'.wtr a) fun e => by rw [e, upd_same]; simp
    fr := s'.fr
    pre := s.pre
    new := s.new
    w0 := fun a w => .inl (s.w0 a w)
    wn := fun a w => w.elim (s.wn a) fun e => .inr (by rw [e]; exact s.none0 hp)
    t0 := s'.t0
    w1 := s.w1
    kcs := s'.kcs
    tb := s'.tb }
/-- .. and becomes a name's own -/
theorem SR.seto (s : SR B W ρ env h σ H) {p : Addr} {vs : List V} {l : List D} {i : Nat} (hp : H p = none) (hi : i < env.length) (r : Reps B.K W ρ H vs l) :
    SR B (addW W p) ρ (env.set i (.own l)) h (σ.set i (some (.ref p))) (upd H p (.lst vs)) := by
  have s' := s.prot (vs := vs) hp
  have np : p ∉ ρ := fun z => s.notW hp (s.rw p z)
  have hs : i < σ.length := by rw [← s.len]; exact hi
  exact { s' with
    len := by rw [List.length_set, List.length_set]; exact s.len
    val := fun j d' e => by
      rcases get_set hi e with ⟨rfl, e2⟩ | ⟨n, e2⟩
      · cases e2
      · obtain ⟨u, q1, q2⟩ := s'.val j d' e2
        exact ⟨u, by rw [List.getElem?_set_ne (Ne.symm n)]; exact q1, q2⟩
    own := fun j m e => by
      rcases get_set hi e with ⟨rfl, e2⟩ | ⟨n, e2⟩
      · cases e2
        exact ⟨p, vs, by rw [List.getElem?_set_self hs], upd_same, (r.grow hp).laid hp, .inr rfl, np, s.none0 hp⟩
      · obtain ⟨a, ws, q1, q2⟩ := s'.own j m e2
        exact ⟨a, ws, by rw [List.getElem?_set_ne (Ne.symm n)]; exact q1, q2⟩
    sep := fun j k l' m a e1 e2 e3 e4 => by
      rcases get_set hi e1 with ⟨rfl, z⟩ | ⟨n1, z1⟩
      · rcases get_set hi e2 with ⟨rfl, z'⟩ | ⟨n2, z2⟩
        · rfl
        · rw [List.getElem?_set_self hs] at e3
          rw [List.getElem?_set_ne (Ne.symm n2)] at e4
          obtain ⟨a', ws, q1, q2, _⟩ := s.own k m z2
          rw [e4] at q1
          cases e3
          cases q1
          rw [hp] at q2; cases q2
      · rcases get_set hi e2 with ⟨rfl, z'⟩ | ⟨n2, z2⟩
        · rw [List.getElem?_set_self hs] at e4
          rw [List.getElem?_set_ne (Ne.symm n1)] at e3
          obtain ⟨a', ws, q1, q2, _⟩ := s.own j l' z1
          rw [e3] at q1
          cases e4
          cases q1
          rw [hp] at q2; cases q2
        · rw [List.getElem?_set_ne (Ne.symm n1)] at e3
          rw [List.getElem?_set_ne (Ne.symm n2)] at e4
          exact s.sep j k l' m a z1 z2 e3 e4 }
/-- a protected list that is no object of the heap is changed: SR but for the names that own it -/
theorem SR.ownset (s : SR B W ρ env h σ H) {i : Nat} {l m : List D} {a : Addr} {vs ws : List V} (he : env[i]? = some (.own l)) (hσ : σ[i]? = some (some (.ref a))) (ha : H a = some (.lst vs))
    (r : Reps B.K W ρ H ws m) : SR B W ρ (env.set i (.own m)) h σ (upd H a (.lst ws)) := by
  have hi : i < env.length := (List.getElem?_eq_some_iff.mp he).1
  obtain ⟨a', vs', q1, q2, q3, wa, na, n0⟩ := s.own i l he
  rw [hσ] at q1; cases q1
  rw [ha] at q2; cases q2
  have trk : ∀ b, H b ≠ none → upd H a (.lst ws) b ≠ none := fun b e => by
    by_cases q : b = a
    · rw [q, upd_same]; simp
    · rw [upd_ne q]; exact e
  exact {
    len := by rw [List.length_set]; exact s.len
    val := fun j d e => by
      rcases get_set hi e with ⟨rfl, e2⟩ | ⟨n, e2⟩
      · cases e2
      · obtain ⟨v, p1, p2⟩ := s.val j d e2
        exact ⟨v, p1, p2.chg wa ha⟩
    own := fun j k e => by
      rcases get_set hi e with ⟨rfl, e2⟩ | ⟨n, e2⟩
      · cases e2
        exact ⟨a, ws, hσ, upd_same, r.chg wa ha, wa, na, n0⟩
      · obtain ⟨b, us, p1, p2, p3, p4⟩ := s.own j k e2
        have nb : b ≠ a := fun e3 => n (s.sep j i k l a e2 he (by rw [p1, e3]) hσ)
        exact ⟨b, us, p1, by rw [upd_ne nb]; exact p2, p3.chg wa ha, p4⟩
    sep := fun j k l' m' b e1 e2 e3 e4 => by
      have f1 : ∃ l2, env[j]? = some (.own l2) := by
        rcases get_set hi e1 with ⟨rfl, z⟩ | ⟨n, z⟩
        · exact ⟨_, he⟩
        · exact ⟨_, z⟩
      have f2 : ∃ l2, env[k]? = some (.own l2) := by
        rcases get_set hi e2 with ⟨rfl, z⟩ | ⟨n, z⟩
        · exact ⟨_, he⟩
        · exact ⟨_, z⟩
      obtain ⟨l2, f1⟩ := f1
      obtain ⟨l3, f2⟩ := f2
      exact s.sep j k l2 l3 b f1 f2 e3 e4
    hl := s.hl
    nd := s.nd
    obj := fun n o' b e1 e2 => by
      have nb : b ≠ a := fun z => na (z ▸ List.mem_of_getElem? e2)
      have := s.obj n o' b e1 e2
      cases o' with
      | lst l =>
        obtain ⟨us, p1, p2⟩ := this
        exact ⟨us, by rw [upd_ne nb]; exact p1, p2.chg wa ha⟩
    rw := s.rw
    wtr := fun b w => trk b (s.wtr b w)
    fr := fun b u e t n => by
      have nb : b ≠ a := fun z => by rw [z, n0] at e; cases e
      rw [upd_ne nb]; exact s.fr b u e t n
    pre := s.pre
    new := s.new
    w0 := s.w0
    wn := s.wn
    t0 := fun b e => trk b (s.t0 b e)
    w1 := s.w1
    kcs := fun c P k => (ups_upd (.inr ⟨_, ha⟩) nt_lst).kc (s.kcs c P k)
    tb := fun P t => (ups_upd (.inr ⟨_, ha⟩) nt_lst).tb (s.tb P t) }
/-- an object of the heap is changed -/
theorem SR.objset (s : SR B W ρ env h σ H) {n : Nat} {l m : List D} {a : Addr} {vs ws : List V} (hn : h[n]? = some (.lst l)) (hρ : ρ[n]? = some a) (ha : H a = some (.lst vs))
    (r : Reps B.K W ρ H ws m) : SR B W ρ env (h.set n (.lst m)) σ (upd H a (.lst ws)) := by
  have wa : W a := s.rw a (List.mem_of_getElem? hρ)
  have hi : n < h.length := (List.getElem?_eq_some_iff.mp hn).1
  have trk : ∀ b, H b ≠ none → upd H a (.lst ws) b ≠ none := fun b e => by
    by_cases q : b = a
    · rw [q, upd_same]; simp
    · rw [upd_ne q]; exact e
  exact {
    len := s.len
    val := fun j d e => let ⟨v, p1, p2⟩ := s.val j d e; ⟨v, p1, p2.chg wa ha⟩
    own := fun j k e => by
      obtain ⟨b, us, p1, p2, p3, p4, p5, p6⟩ := s.own j k e
      have nb : b ≠ a := fun z => p5 (z ▸ List.mem_of_getElem? hρ)
      exact ⟨b, us, p1, by rw [upd_ne nb]; exact p2, p3.chg wa ha, p4, p5, p6⟩
    sep := s.sep
    hl := by rw [List.length_set]; exact s.hl
    nd := s.nd
    obj := fun k o' b e1 e2 => by
      rcases get_set hi e1 with ⟨rfl, z⟩ | ⟨nk, z⟩
      · rw [hρ] at e2; cases e2; subst z
        exact ⟨ws, upd_same, r.chg wa ha⟩
      · have nb : b ≠ a := fun q => by
          subst q
          obtain ⟨h1, e3⟩ := List.getElem?_eq_some_iff.mp e2
          obtain ⟨h2, e4⟩ := List.getElem?_eq_some_iff.mp hρ
          exact nk ((List.getElem_inj s.nd).mp (e3.trans e4.symm))
        have := s.obj k o' b z e2
        cases o' with
        | lst l =>
          obtain ⟨us, p1, p2⟩ := this
          exact ⟨us, by rw [upd_ne nb]; exact p1, p2.chg wa ha⟩
    rw := s.rw
    wtr := fun b w => trk b (s.wtr b w)
    fr := fun b u e t nb => by
      have ne : b ≠ a := fun z => by
        rcases s.new a (List.mem_of_getElem? hρ) with q | q
        · exact nb (z ▸ q)
        · rw [z, q] at e; cases e
      rw [upd_ne ne]; exact s.fr b u e t nb
    pre := s.pre
    new := s.new
    w0 := s.w0
    wn := s.wn
    t0 := fun b e => trk b (s.t0 b e)
    w1 := s.w1
    kcs := fun c P k => (ups_upd (.inr ⟨_, ha⟩) nt_lst).kc (s.kcs c P k)
    tb := fun P t => (ups_upd (.inr ⟨_, ha⟩) nt_lst).tb (s.tb P t) }
theorem Ext.objset {a : Addr} {vs ws : List V} (hρ : a ∈ ρ) (hw : W a) (ha : H a = some (.lst vs)) : Ext K W ρ H W ρ (upd H a (.lst ws)) where
  fr := fun b u e _ nb => by
    have ne : b ≠ a := fun z => nb (z ▸ hρ)
    rw [upd_ne ne]; exact e
  tr := fun b e => by
    by_cases q : b = a
    · rw [q, upd_same]; simp
    · rw [upd_ne q]; exact e
  pre := List.prefix_refl _
  new := fun _ h => .inl h
  tp := fun _ _ => sqT_chg ha
  ls := fun b _ nb r => ⟨nb, rd_ne (fun e => nb (e ▸ hw)) r⟩
  wm := fun _ w => w
  wn := fun _ w => .inl w
  tb := fun _ t => (ups_upd (.inr ⟨_, ha⟩) nt_lst).tb t
/-- a new object of the heap -/
theorem SR.objnew (s : SR B W ρ env h σ H) {p : Addr} {vs : List V} {l : List D} (hp : H p = none) (r : Reps B.K W ρ H vs l) :
    SR B (addW W p) (ρ ++ [p]) env (h ++ [.lst l]) σ (upd H p (.lst vs)) := by
  have s' := s.prot (vs := vs) hp
  have np : p ∉ ρ := fun z => s.notW hp (s.rw p z)
  have pg : ∀ (n : Nat) (a : Addr), ρ[n]? = some a → (ρ ++ [p])[n]? = some a := fun n a => pre_get (List.prefix_append _ _)
  have up : ∀ {v : V} {d : D}, Rep B.K (addW W p) ρ (upd H p (.lst vs)) v d → Rep B.K (addW W p) (ρ ++ [p]) (upd H p (.lst vs)) v d := fun q => q.map (fun _ _ h => h) (fun _ _ n h => ⟨n, h⟩) pg
  have ups : ∀ {v : List V} {d : List D}, Reps B.K (addW W p) ρ (upd H p (.lst vs)) v d → Reps B.K (addW W p) (ρ ++ [p]) (upd H p (.lst vs)) v d := fun q => q.map (fun _ _ h => h) (fun _ _ n h => ⟨n, h⟩) pg
  exact {
    len := s.len
    val := fun i d e => let ⟨v, a, b⟩ := s'.val i d e; ⟨v, a, up b⟩
    own := fun i k e => by
      obtain ⟨a, us, p1, p2, p3, p4, p5, p6⟩ := s'.own i k e
      refine ⟨a, us, p1, p2, ups p3, p4, fun z => ?_, p6⟩
      rcases List.mem_append.mp z with z | z
      · exact p5 z
      · rw [List.mem_singleton] at z
        obtain ⟨a2, us2, e1, e2, _⟩ := s.own i k e
        rw [p1] at e1; cases e1
        rw [z, hp] at e2; cases e2
    sep := s.sep
    hl := by rw [List.length_append, List.length_append, s.hl]; rfl
    nd := List.nodup_append.mpr ⟨s.nd, by simp, fun a ha b hb e => np (by rw [List.mem_singleton] at hb; rw [← hb, ← e]; exact ha)⟩
    obj := fun n o' a e1 e2 => by
      by_cases q : n < h.length
      · rw [List.getElem?_append_left q] at e1
        rw [List.getElem?_append_left (by rw [s.hl]; exact q)] at e2
        have := s'.obj n o' a e1 e2
        cases o' with
        | lst k =>
          obtain ⟨us, p1, p2⟩ := this
          exact ⟨us, p1, ups p2⟩
      · have hn : n = h.length := by
          have := (List.getElem?_eq_some_iff.mp e1).1
          rw [List.length_append] at this
          simp at this
          omega
        rw [hn, List.getElem?_append_right (Nat.le_refl _)] at e1
        rw [hn, ← s.hl, List.getElem?_append_right (Nat.le_refl _)] at e2
        simp at e1 e2
        subst e1 e2
        exact ⟨vs, upd_same, ups ((r.grow hp).laid hp)⟩
    rw := fun a z => by
      rcases List.mem_append.mp z with z | z
      · exact .inl (s.rw a z)
      · exact .inr (List.mem_singleton.mp z)
    wtr := s'.wtr
    fr := s'.fr
    pre := s.pre.trans (List.prefix_append _ _)
    new := fun a z => by
      rcases List.mem_append.mp z with z | z
      · exact s.new a z
      · rw [List.mem_singleton.mp z]; exact .inr (s.none0 hp)
    w0 := s'.w0
    wn := s'.wn
    t0 := s'.t0
    w1 := s.w1
    kcs := s'.kcs
    tb := s'.tb }
/-- an own list is given up -/
theorem SR.freeze2 (s : SR B W ρ env h σ H) {i : Nat} {l : List D} (he : env[i]? = some (.own l)) :
    ∃ W' : Addr → Prop, SR B W' ρ (env.set i (.v (.lst l))) h σ H ∧ ∃ a, σ[i]? = some (some (.ref a)) ∧ (Rep B.K W' ρ H (.ref a) (.lst l) ∧ ∀ b, W' b → W b) := by
  have hi : i < env.length := (List.getElem?_eq_some_iff.mp he).1
  obtain ⟨a, vs, q1, q2, q3, wa, na, n0⟩ := s.own i l he
  have nz : ¬ B.W0 a := fun w => s.w1 a w n0
  have less : ∀ (b : Addr) (us : List V), ¬ W b → Rd H b (.lst us) → ¬ (W b ∧ b ≠ a) ∧ Rd H b (.lst us) := fun b us n r => ⟨fun z => n z.1, r⟩
  have up : ∀ {v : V} {d : D}, Rep B.K W ρ H v d → Rep B.K (fun b => W b ∧ b ≠ a) ρ H v d := fun q => q.map (fun _ _ h => h) less fun _ _ h => h
  have ups : ∀ {v : List V} {d : List D}, Reps B.K W ρ H v d → Reps B.K (fun b => W b ∧ b ≠ a) ρ H v d := fun q => q.map (fun _ _ h => h) less fun _ _ h => h
  have ra : Rep B.K (fun b => W b ∧ b ≠ a) ρ H (.ref a) (.lst l) := .lst (.inl q2) (fun z => z.2 rfl) (ups q3)
  refine ⟨fun b => W b ∧ b ≠ a, ?_, a, q1, ra, fun b z => z.1⟩
  exact {
    len := by rw [List.length_set]; exact s.len
    val := fun j d e => by
      rcases get_set hi e with ⟨rfl, e2⟩ | ⟨n, e2⟩
      · cases e2
        exact ⟨_, q1, ra⟩
      · obtain ⟨v, p1, p2⟩ := s.val j d e2
        exact ⟨v, p1, up p2⟩
    own := fun j k e => by
      rcases get_set hi e with ⟨rfl, e2⟩ | ⟨n, e2⟩
      · cases e2
      · obtain ⟨b, us, p1, p2, p3, p4, p5⟩ := s.own j k e2
        exact ⟨b, us, p1, p2, ups p3, ⟨p4, fun e3 => n (s.sep j i k l a e2 he (by rw [p1, e3]) q1)⟩, p5⟩
    sep := fun j k l' m' b e1 e2 e3 e4 => by
      rcases get_set hi e1 with ⟨rfl, z⟩ | ⟨n1, z1⟩
      · cases z
      · rcases get_set hi e2 with ⟨rfl, z⟩ | ⟨n2, z2⟩
        · cases z
        · exact s.sep j k l' m' b z1 z2 e3 e4
    hl := s.hl
    nd := s.nd
    obj := fun n o' b e1 e2 => by
      have := s.obj n o' b e1 e2
      cases o' with
      | lst l =>
        obtain ⟨us, p1, p2⟩ := this
        exact ⟨us, p1, ups p2⟩
    rw := fun b z => ⟨s.rw b z, fun e => na (e ▸ z)⟩
    wtr := fun b w => s.wtr b w.1
    fr := s.fr
    pre := s.pre
    new := s.new
    w0 := fun b w => ⟨s.w0 b w, fun e => nz (e ▸ w)⟩
    wn := fun b w => s.wn b w.1
    t0 := s.t0
    w1 := s.w1
    kcs := s.kcs
    tb := s.tb }
/-- what an own list holds -/
theorem SR.ownAt (s : SR B W ρ env h σ H) {i : Nat} {l : List D} (he : env[i]? = some (.own l)) :
    ∃ a vs, σ[i]? = some (some (.ref a)) ∧ H a = some (.lst vs) ∧ Reps B.K W ρ H vs l ∧ W a ∧ a ∉ ρ :=
  let ⟨a, vs, q1, q2, q3, q4, q5, _⟩ := s.own i l he; ⟨a, vs, q1, q2, q3, q4, q5⟩
/-- new code objects -/
theorem Ext.codes {H2 : Hp} (x : GX.ExtT H H2) : Ext K W ρ H W ρ H2 where
  fr := fun a u e t _ => x.st a u e t
  tr := fun a e => by
    cases q : H a with
    | none => exact absurd q e
    | some u =>
      by_cases t : ∃ ps, u = .tbl ps
      · obtain ⟨ps, rfl⟩ := t
        obtain ⟨ps', z⟩ := x.tb _ _ q
        rw [z]; simp
      · rw [x.st a u q fun ps z => t ⟨ps, z⟩]; simp
  pre := List.prefix_refl _
  new := fun _ h => .inl h
  tp := fun a vs e => by
    rcases e with (e | ⟨ob, e⟩) | e
    · exact .inl (.inl (x.st _ _ e fun _ z => by cases z))
    · exact .inl (.inr ⟨ob, x.st _ _ e fun _ z => by cases z⟩)
    · exact .inr e
  ls := fun a vs n e => by
    rcases e with e | ⟨ob, e⟩
    · exact ⟨n, .inl (x.st _ _ e fun _ z => by cases z)⟩
    · exact ⟨n, .inr ⟨ob, x.st _ _ e fun _ z => by cases z⟩⟩
  wm := fun _ w => w
  wn := fun _ w => .inl w
  tb := x.gt
theorem SR.codes (s : SR B W ρ env h σ H) {H2 : Hp} (x : GX.ExtT H H2) : SR B W ρ env h σ H2 where
  len := s.len
  val := fun i d e => let ⟨v, a, b⟩ := s.val i d e; ⟨v, a, b.ext (.codes x)⟩
  own := fun i l e => let ⟨a, vs, q1, q2, q3, q4⟩ := s.own i l e; ⟨a, vs, q1, x.st _ _ q2 nt_lst, q3.ext (.codes x), q4⟩
  sep := s.sep
  hl := s.hl
  nd := s.nd
  obj := fun n o' a e1 e2 => by
    have := s.obj n o' a e1 e2
    cases o' with
    | lst l =>
      obtain ⟨vs, q1, q2⟩ := this
      exact ⟨vs, x.st _ _ q1 nt_lst, q2.ext (.codes x)⟩
  rw := s.rw
  wtr := fun a w => (Ext.codes (K := B.K) (W := W) (ρ := ρ) x).tr a (s.wtr a w)
  fr := fun a u e t n => x.st _ _ (s.fr a u e t n) t
  pre := s.pre
  new := s.new
  w0 := s.w0
  wn := s.wn
  t0 := fun a e => (Ext.codes (K := B.K) (W := W) (ρ := ρ) x).tr a (s.t0 a e)
  w1 := s.w1
  kcs := fun c P k => let q := s.kcs c P k; ⟨q.1.imp id fun e => x.st _ _ e (GX.cdO_ne ·), x.gt _ q.2⟩
  tb := fun P t => x.gt _ (s.tb P t)
/-- one more known code object -/
def Bx.add (B : Bx) (c P : Addr) : Bx := { B with kc := fun c' P' => B.kc c' P' ∨ (c' = c ∧ P' = P) }
theorem SR.add (s : SR B W ρ env h σ H) {c P : Addr} (k : GX.Kc B.base H c P) : SR (B.add c P) W ρ env h σ H :=
  ⟨s.len, s.val, s.own, s.sep, s.hl, s.nd, s.obj, s.rw, s.wtr, s.fr, s.pre, s.new, s.w0, s.wn, s.t0, s.w1, fun c' P' z => z.elim (s.kcs c' P') fun ⟨e1, e2⟩ => by subst e1 e2; exact k, s.tb⟩
end
end MP

/-! MP: operators. -/
namespace MP
open PySem
open PySem.Spec
open PyProof.Rows
open L2
theorem tuple_mulS (l : Addr) (items : Array Value) (n : Nat) (dd : Option Addr) (sl : Array (Option Value)) (x : Int) (u : Tok) (c0 : (decide (x < -(2 ^ 63)) || decide (x ≥ 2 ^ 63)) = false) (c1 : (items.isEmpty || x == 1) = true) :
    Meets (Builtin.«tuple.__mul__» ⟨[.ref l, .int x u], []⟩) (fun _ R s => s.heap.get? l = some {
                                                                cls := .type "tuple", dict := dd, data := .seq items n, slots := sl } ∧
      R (.ok (.ret (Value.ref l))) s) :=
  .of_wp fun prog w A R
                                                              s h => by
    obtain ⟨hp, g, d, tk,
                                                                os⟩ := s
    obtain ⟨hl, h⟩ := h
    have f1 := AutoSeq1.idx_int
    wp_walk using
                                                                wpAny_loadPart' hl
    repeat (first
      | (refine wpAny_ite_false (decide_eq_false (by rw [c0]; exact
                                                                  Bool.false_ne_true)) ?_; wp_walk using wpAny_loadPart' hl)
      | (refine wpAny_ite_true (decide_eq_true (by rw [c1])) ?_; wp_walk using wpAny_loadPart' hl))
    exact ⟨_, rfl, h⟩
theorem tuple_mul0 (l : Addr) (items : Array Value) (n : Nat) (dd : Option Addr) (sl : Array (Option Value)) (x : Int) (u : Tok) (c0 : (decide (x < -(2 ^ 63)) || decide (x ≥ 2 ^ 63)) = false) (c1 : (items.isEmpty || x == 1) = false) (c2 : (decide (x ≤ 0) || items.isEmpty) = true) :
    Meets (Builtin.«tuple.__mul__» ⟨[.ref l, .int x u], []⟩) (fun _ R s => s.heap.get? l = some {
                                                                cls := .type "tuple", dict := dd, data := .seq items n, slots := sl } ∧
      R (.ok (.ret (Value.ref s.heap.objs.size))) { s with heap := s.heap.push { cls := Value.type "tuple", data := Data.seq #[] }, toks := s.toks }) :=
  .of_wp fun prog w A R
                                                              s h => by
    obtain ⟨hp, g, d, tk,
                                                                os⟩ := s
    obtain ⟨hl, h⟩ := h
    have f1 := AutoSeq1.idx_int
    wp_walk using
                                                                wpAny_loadPart' hl
    repeat (first
      | (refine wpAny_ite_false (decide_eq_false (by rw [c0]; exact
                                                                  Bool.false_ne_true)) ?_; wp_walk using wpAny_loadPart' hl)
      | (refine wpAny_ite_false (decide_eq_false (by rw [c1]; exact
                                                                  Bool.false_ne_true)) ?_; wp_walk using wpAny_loadPart' hl)
      | (refine wpAny_ite_true (decide_eq_true (by rw [c2])) ?_; wp_walk using wpAny_loadPart' hl))
    exact ⟨_, rfl, h⟩
section
variable {X : Cx}
/-- a tuple times an int from 0 to 1000 -/
def rRepA (K : PySem.W.Frag) : R2 := fun x y H Q => ∃ l k xs, x = .ref l ∧ y = .int k ∧ SqT K H l xs ∧ 0 ≤ k ∧ k ≤ 1000 ∧ xs.length ≤ 1000 ∧
  (xs = [] ∨ k = 1 → Q (.ref l) H) ∧ (¬ (xs = [] ∨ k = 1) → ∀ p, H p = none → Q (.ref p) (upd H p (.tup (List.replicate k.toNat xs).flatten)))
theorem op_repA : OpR X (binaryOp .Mult) (rRepA X.K) := by
  intro pins s σ H x y v
                                                              u Q I rx ry h
  obtain ⟨l, k, xs, rfl, rfl, hT, h1, h2, hz, q1, q2⟩ := h
  by_cases hs : xs = [] ∨ k = 1
  · cases rx
    obtain ⟨t, rfl⟩ := ry
    obtain ⟨its, r, ⟨⟨cls, dd, data, sl⟩, ho, hc, n, hd⟩, hsz⟩ := I.tuple hT
    simp only at hc hd
    subst hc hd
    have c0 : (decide (k < -(2 ^ 63)) || decide
                                                                (k ≥ 2 ^ 63)) = false := by
      rw [decide_eq_false (by omega), decide_eq_false
                                                                  (by omega)] <;> rfl
    have c1 : (its.toArray.isEmpty || k == 1) = true := by
      rcases hs with e | e
      · subst e
        cases r
        rfl
      · subst e
        rw [Bool.or_eq_true]
        exact .inr rfl
    exact wpAny_binaryOp_repeat_ref (T := "tuple") (U := "int") (by decide) ⟨_, ho, rfl⟩ (fun s' => typeIs_int s' k t) noFill_tuple_mul F.fills_int_mul F.slot_int_rmul repeat_tuple F.slot_int_index.lookup
      (call_meets F.slot_int_rmul (typeIs_int s k t) F.entry_int_rmul (F.args_int_rmul_2 _
                                                                  _) (int_rmul_tuple k t l its.toArray n dd sl)
        ⟨ho, rfl, ⟨_, ho, rfl⟩, call_meets F.slot_tuple_mul ⟨_, ho, rfl⟩ F.entry_tuple_mul (F.args_tuple_mul_2 _ _) (tuple_mulS l its.toArray n dd sl k t c0 c1) ⟨ho, .ref l, H, I, rfl, q1 hs⟩⟩)
  · by_cases h0 : k = 0
    · subst h0
      have hne : xs ≠ [] := fun e => hs (.inl e)
      cases rx
      obtain ⟨t, rfl⟩ := ry
      obtain ⟨its, r, ⟨⟨cls, dd, data, sl⟩, ho, hc, n, hd⟩, hsz⟩ := I.tuple hT
      simp only at hc hd
      subst hc hd
      have hi : its.toArray.isEmpty =
                                                                  false := by
        cases its with
        | nil => cases r; exact absurd rfl hne
        | cons a b => rfl
      have c1 : (its.toArray.isEmpty || (0 : Int) == 1) = false := by rw [hi]; rfl
      refine wpAny_binaryOp_repeat_ref (T := "tuple") (U := "int") (by decide) ⟨_, ho, rfl⟩ (fun s' => typeIs_int s' 0 t) noFill_tuple_mul F.fills_int_mul F.slot_int_rmul repeat_tuple F.slot_int_index.lookup
        (call_meets F.slot_int_rmul (typeIs_int s 0 t) F.entry_int_rmul (F.args_int_rmul_2 _ _) (int_rmul_tuple 0 t l its.toArray n dd sl)
          ⟨ho, rfl, ⟨_, ho, rfl⟩, call_meets F.slot_tuple_mul ⟨_, ho, rfl⟩ F.entry_tuple_mul (F.args_tuple_mul_2 _ _) (tuple_mul0 l its.toArray n dd sl 0 t rfl c1 rfl) ⟨ho, ?_⟩⟩)
      refine ⟨.ref s.heap.objs.size, _, I.laid (t' := s.toks) (o := .tup []) (fun b ob q => Heap.get?_push_of_some _ q) (Nat.le_refl _) ?_, rfl, q2 hs _ (I.hok.fresh (Nat.le_refl _))⟩
      exact ⟨Nat.zero_le _, [], .nil, IsTup.new _ _⟩
    · have hne : xs ≠ [] := fun e => hs (.inl e)
      have h3 : k ≠ 1 := fun e => hs (.inr e)
      exact op_repT pins s σ H _ _ v u Q I rx ry ⟨l, k, xs, rfl, rfl, hT, hne, by omega, h2, hz, q2 hs⟩
/-- list + list -/
def rCatR : R2 := fun x y H Q => ∃ l b xs zs, x = .ref l ∧ y = .ref b ∧ Rd H l (.lst xs) ∧ Rd H b (.lst zs) ∧ xs.length + zs.length ≤ sizeLine ∧ ∀ p, H p = none → Q (.ref p) (upd H p (.lst (xs ++ zs)))
theorem op_catR : OpR X (binaryOp .Add) rCatR := by
  intro pins s σ H x y v
                                                              u Q I rx ry h
  obtain ⟨l, b, xs, zs, rfl, rfl,
                                                              hH, hB, hz, q⟩ := h
  cases rx
  cases ry
  obtain ⟨z, its, n, r, e⟩ := hH.ok I.hok
  obtain ⟨z2, its2, n2, r2, e2⟩ := hB.ok I.hok
  have hl := r.length
  have hl2 := r2.length
  refine PySem.P.add_list e e2 ?_ (by
                                                              rw [List.size_toArray, List.size_toArray]; omega)
  have ea : its.toArray ++ its2.toArray = (its
                                                              ++ its2).toArray := by simp
  rw [ea]
  exact ⟨.ref _, _, I.lnew (t' := s.toks) (r.append r2)
                                                              (by rw [List.length_append]; omega), rfl, q _ I.fresh⟩
def rRepR : R2 := fun x y H Q => ∃ l k xs, x = .ref l ∧ y = .int k ∧ Rd H l (.lst xs) ∧ -(2 ^ 63) ≤ k ∧ k < 2 ^ 63 ∧ xs.length * k.toNat ≤ sizeLine ∧
  ∀ p, H p = none → Q (.ref p) (upd
                                                              H p (.lst (List.replicate k.toNat xs).flatten))
theorem op_repR : OpR X (binaryOp .Mult) rRepR := by
  intro pins s σ H x y v
                                                              u Q I rx ry h
  obtain ⟨l, k, xs, rfl, rfl, hH,
                                                              h1, h2, hz, q⟩ := h
  cases rx
  obtain ⟨t, rfl⟩ := ry
  obtain ⟨z, its, n, r, e⟩ := hH.ok I.hok
  have hl := r.length
  have hlen : its.toArray.size * k.toNat ≤ sizeLine :=
                                                              by rw [List.size_toArray, ← hl]; exact hz
  have hcap : ¬ its.toArray.size * k.toNat > (2
                                                              ^ 63 - 1) / 8 := by
    have : (sizeLine : Nat) ≤ (2 ^ 63
                                                                - 1) / 8 := by decide
    omega
  have hfit : ¬ (!Builtin.List.listFitsIndex k)
                                                              = true := by
    rw [fitsIndex_both h1 h2]
    exact Bool.false_ne_true
  have hlong : ¬ Builtin.List.listTooLong (its.toArray.size *
                                                              k.toNat) = true := by
    rw [notLongL hlen]
    exact Bool.false_ne_true
  have hnew : List.foldl (fun x1 x2 => x1 ++ x2) #[] (List.replicate (if its.toArray.isEmpty
                                                              = true then 0 else k.toNat) its.toArray) = (List.replicate k.toNat its).flatten.toArray := by
    have f0 : ∀ m : Nat, List.foldl (fun x1 x2 => x1 ++ x2)
                                                                #[] (List.replicate m its.toArray) = (List.replicate m its).flatten.toArray := fun m => by
      have := foldl_rep its m []
      rw [List.nil_append] at this
      exact this
    rw [f0]
    cases its with
    | nil => simp
    | cons a r' => rw
                                                                [if_neg (by simp)]
  refine wpAny_binaryOp_repeat_ref (T := "list") (U := "int") (by decide) ⟨_, e, rfl⟩
                                                              (fun s' => typeIs_int s' k t) noFill_list_mul F.fills_int_mul F.slot_int_rmul repeat_list F.slot_int_index.lookup
    (call_meets F.slot_int_rmul (typeIs_int s k t) F.entry_int_rmul (F.args_int_rmul_2
                                                                _ _) (int___rmul___int_list k t l its.toArray n)
      ⟨e, rfl, ⟨_, e, rfl⟩, call_meets F.slot_list_mul ⟨_, e, rfl⟩ F.entry_list_mul (F.args_list_mul_2 _ _)
                                                                  (AutoListH.list___mul___list_int_3 l its.toArray n k t hfit hcap hlong) ⟨e, ?_⟩⟩)
  rw [hnew]
  exact ⟨.ref _, _, I.lnew (t' := s.toks) (r.rep k.toNat) (by
                                                              rw [PyProof.Rows.lm_len_rep_flat, Nat.mul_comm]; exact hz), rfl, q _ I.fresh⟩
/-- great ints -/
theorem bmul_ok {i j : Int} (h : i.natAbs.log2 + j.natAbs.log2 < bitsMost) : IntMulOk i j := by
  have b : ∀ x : Int, Builtin.Int.intBits x ≤ x.natAbs.log2
                                                              + 1 := fun x => by
    unfold Builtin.Int.intBits
    split <;> omega
  have h1 := b i
  have h2 := b j
  have h3 : i.natAbs.log2 + j.natAbs.log2 < 100000000 := h
  have e : bitsLine = 134217728
                                                              := by decide
  unfold IntMulOk
  intro z
  rw [Bool.and_eq_true] at z
  have z2 := z.2
  unfold Builtin.Int.intTooBig
                                                              at z2
  have z3 :=
                                                              of_decide_eq_true z2
  rw [e] at z3
  omega
theorem op_mulB : OpR X (binaryOp .Mult) (rI (fun i j => i.natAbs.log2 + j.natAbs.log2 < bitsMost) fun i j => .int (i * j)) := opI fun _ _ _ _ _ _ _ hc q => mul_int q (bmul_ok hc)
theorem op_fdivB : OpR X (binaryOp .FloorDiv) (rI (fun i j => j ≠ 0 ∧ Builtin.divisionGoesByPylong i j = false) fun i j => .int (i.fdiv j)) := opI fun _ _ _ _ _ _ _ hc q => floordiv_int hc.1 q (.inl hc.2)
theorem op_modB : OpR X (binaryOp .Mod) (rI (fun _ j => j ≠ 0) fun i j => .int (i.fmod j)) := op_modN
end

/-! ### what is wanted behind -/
section
variable {B : Bx} {W : Addr → Prop} {ρ : List Addr} {H : Hp} {env : Env} {h : Hh} {σ : L2.St} {Q : VK}
/-- a value, or one's own list (an object of the heap is a value) -/
def WRep (K : PySem.W.Frag) (W : Addr → Prop) (ρ : List Addr) (H : Hp) (v : V) (d : D) : Prop :=
  Rep K W ρ H v d ∨ ∃ a vs l, v = .ref a ∧ d = .lst l ∧ H a = some (.lst vs) ∧ a ∉ ρ ∧ Reps K W ρ H vs l
theorem WRep.ext {K : PySem.W.Frag} {W' : Addr → Prop} {ρ' : List Addr} {H' : Hp} (x : Ext K W ρ H W' ρ' H') {v : V} {d : D} (r : WRep K W ρ H v d) : WRep K W' ρ' H' v d := by
  rcases r with r | ⟨a, vs, l, rfl, rfl, q1, q2, q3⟩
  · exact .inl (r.ext x)
  · refine .inr ⟨a, vs, l, rfl, rfl, x.fr a _ q1 nt_lst q2, fun z => ?_, q3.ext x⟩
    rcases x.new a z with z | z
    · exact q2 z
    · rw [q1] at z; cases z
/-- the end of an expression: the state S0 is (W, ρ, H) -/
def Post (B : Bx) (W : Addr → Prop) (ρ : List Addr) (H : Hp) (env : Env) (σ : L2.St) (h : Hh) (d : D) (Q : VK) : Prop :=
  ∀ v H' W' ρ', SR B W' ρ' env h σ H' → Ext B.K W ρ H W' ρ' H' → Rep B.K W' ρ' H' v d → Q v H'
theorem Post.here (s : SR B W ρ env h σ H) {d : D} {v : V} (p : Post B W ρ H env σ h d Q) (r : Rep B.K W ρ H v d) : Q v H := p v H W ρ s .refl r
theorem Post.tup (s : SR B W ρ env h σ H) {vs : List V} {ds : List D} (p : Post B W ρ H env σ h (.tup ds) Q) (r : Reps B.K W ρ H vs ds) : ∀ a, H a = none → Q (.ref a) (upd H a (.tup vs)) :=
  fun a ha => p _ _ W ρ (s.laid ha) (.laid ha) (s.tup ha r)
theorem Post.lst (s : SR B W ρ env h σ H) {vs : List V} {ds : List D} (p : Post B W ρ H env σ h (.lst ds) Q) (r : Reps B.K W ρ H vs ds) : ∀ a, H a = none → Q (.ref a) (upd H a (.lst vs)) :=
  fun a ha => p _ _ W ρ (s.laid ha) (.laid ha) (s.lst ha r)
theorem Post.ext {W' : Addr → Prop} {ρ' : List Addr} {H' : Hp} {d : D} (x : Ext B.K W ρ H W' ρ' H') (p : Post B W ρ H env σ h d Q) : Post B W' ρ' H' env σ h d Q :=
  fun v H2 W2 ρ2 s x2 r => p v H2 W2 ρ2 s (x.trans x2) r
/-- a list that nobody else holds -/
def PostF (B : Bx) (W : Addr → Prop) (ρ : List Addr) (H : Hp) (env : Env) (σ : L2.St) (h : Hh) (l : List D) (Q : VK) : Prop :=
  ∀ a vs H' W' ρ', SR B W' ρ' env h σ H' → Ext B.K W ρ H W' ρ' H' → H' a = none → Reps B.K W' ρ' H' vs l → Q (.ref a) (upd H' a (.lst vs))
/-- .. or any value -/
def PostX (B : Bx) (W : Addr → Prop) (ρ : List Addr) (H : Hp) (env : Env) (σ : L2.St) (h : Hh) (d : D) (Q : VK) : Prop :=
  Post B W ρ H env σ h d Q ∨ ∃ l, d = .lst l ∧ PostF B W ρ H env σ h l Q
theorem PostX.here (s : SR B W ρ env h σ H) {d : D} {v : V} (p : PostX B W ρ H env σ h d Q) (r : Rep B.K W ρ H v d) (hd : ∀ l, d ≠ .lst l := by intro l z; cases z) : Q v H := by
  rcases p with p | ⟨l, e, _⟩
  · exact p.here s r
  · exact absurd e (hd l)
theorem PostX.tup (s : SR B W ρ env h σ H) {vs : List V} {ds : List D} (p : PostX B W ρ H env σ h (.tup ds) Q) (r : Reps B.K W ρ H vs ds) : ∀ a, H a = none → Q (.ref a) (upd H a (.tup vs)) := by
  rcases p with p | ⟨l, e, _⟩
  · exact p.tup s r
  · cases e
theorem PostX.lst (s : SR B W ρ env h σ H) {vs : List V} {ds : List D} (p : PostX B W ρ H env σ h (.lst ds) Q) (r : Reps B.K W ρ H vs ds) : ∀ a, H a = none → Q (.ref a) (upd H a (.lst vs)) := by
  rcases p with p | ⟨l, e, p⟩
  · exact p.lst s r
  · cases e
    exact fun a ha => p a vs H W ρ s .refl ha r
theorem PostF.ext {W' : Addr → Prop} {ρ' : List Addr} {H' : Hp} {d : List D} (x : Ext B.K W ρ H W' ρ' H') (p : PostF B W ρ H env σ h d Q) : PostF B W' ρ' H' env σ h d Q :=
  fun a vs H2 W2 ρ2 s x2 e r => p a vs H2 W2 ρ2 s (x.trans x2) e r
theorem Str.ext_iff' {a b : Str} : a = b ↔ a.cps = b.cps := ⟨fun h => by rw [h], fun h => by cases a; cases b; cases h; rfl⟩
/-- where a list lies -/
theorem lstAt (s : SR B W ρ env h σ H) {v : V} {d : D} {l : List D} (r : WRep B.K W ρ H v d) (e : asL h d = some l) : ∃ a vs, v = .ref a ∧ Rd H a (.lst vs) ∧ Reps B.K W ρ H vs l := by
  cases d with
  | lst m =>
    cases e
    rcases r with r | ⟨a, vs, m', rfl, e2, q1, q2, q3⟩
    · cases r with
      | lst h1 h2 h3 => exact ⟨_, _, rfl, h1, h3⟩
    · cases e2
      exact ⟨a, vs, rfl, .inl q1, q3⟩
  | ref n =>
    rcases r with r | ⟨a, vs, m', rfl, e2, _⟩
    · cases r with
      | ref h1 =>
        have e' : (match h[n]? with | some (MO.lst l) => some l | _ => none) = some l := e
        cases q : h[n]? with
        | none => rw [q] at e'; cases e'
        | some o =>
          rw [q] at e'
          cases o with
          | lst m =>
            have e3 : m = l := Option.some.inj e'
            subst e3
            obtain ⟨vs, h2, h3⟩ := s.obj n _ _ q h1
            exact ⟨_, vs, rfl, .inl h2, h3⟩
    · cases e2
  | _ => cases e
theorem strong_of {K : PySem.W.Frag} {v : V} {d : D} (r : WRep K W ρ H v d) (hd : ∀ l, d ≠ .lst l) : Rep K W ρ H v d := by
  rcases r with r | ⟨a, vs, l, _, e, _⟩
  · exact r
  · exact absurd e (hd l)
theorem wInt {K : PySem.W.Frag} {v : V} {i : Int} (r : WRep K W ρ H v (.int i)) : v = .int i := by
  have r := strong_of r (fun l e => by cases e)
  cases r; rfl
theorem wBl {K : PySem.W.Frag} {v : V} {i : Bool} (r : WRep K W ρ H v (.bl i)) : v = .bl i := by
  have r := strong_of r (fun l e => by cases e)
  cases r; rfl
theorem wNon {K : PySem.W.Frag} {v : V} (r : WRep K W ρ H v .non) : v = .non := by
  have r := strong_of r (fun l e => by cases e)
  cases r; rfl
theorem wStr {K : PySem.W.Frag} {v : V} {s : List Nat} (r : WRep K W ρ H v (.str s)) : ∃ z : Str, v = .str z ∧ z.cps.toList = s := by
  have r := strong_of r (fun l e => by cases e)
  cases r; exact ⟨_, rfl, rfl⟩
theorem wTup {K : PySem.W.Frag} {v : V} {l : List D} (r : WRep K W ρ H v (.tup l)) : ∃ a vs, v = .ref a ∧ SqT K H a vs ∧ Reps K W ρ H vs l := by
  have r := strong_of r (fun l e => by cases e)
  cases r with
  | tup h1 h2 => exact ⟨_, _, rfl, h1, h2⟩
end
theorem most_line {n : Nat} (h : n ≤ most) : n ≤ sizeLine := by
  have : most ≤ sizeLine := by decide
  omega
theorem most_lt {n : Nat} (h : n < most) : n < sizeLine := by
  have : most ≤ sizeLine := by decide
  omega
theorem str_len (z : Str) : z.length = z.cps.toList.length := by
  show z.cps.size = _
  simp
theorem str_app (a b : Str) : (a ++ b).cps.toList = a.cps.toList ++ b.cps.toList := by
  show (a.cps ++ b.cps).toList = _
  simp

/-! ### binary operators -/
def rBin (B : Bx) (o : Operator) : R2 := fun x y H Q => ∃ W ρ env h σ a b r, SR B W ρ env h σ H ∧ WRep B.K W ρ H x a ∧ WRep B.K W ρ H y b ∧ binD h o a b = some r ∧ PostX B W ρ H env σ h r Q
theorem op_bin {X : Cx} {B : Bx} (hK : B.K = X.K) (o : Operator) : OpR X (binaryOp o) (rBin B o) := by
  intro pins s σ H x y v u Q I rx ry hh
  obtain ⟨W, ρ, env, h, σ', a, b, r, S, ra, rb, e, p⟩ := hh
  unfold binD at e
  split at e
  · -- int + int
    cases wInt ra; cases wInt rb; cases e
    exact op_add pins s σ H _ _ v u Q I rx ry ⟨_, _, rfl, rfl, p.here S (.int _)⟩
  · obtain ⟨z, rfl, e1⟩ := wStr ra
    obtain ⟨w, rfl, e2⟩ := wStr rb
    split at e
    · rename_i hl
      cases e
      refine op_add_str pins s σ H _ _ v u Q I rx ry ⟨z, w, rfl, rfl, ?_, ?_⟩
      · rw [str_len, str_len, e1, e2]; exact most_line hl
      · refine p.here S ?_
        rw [← e1, ← e2, ← str_app]
        exact .str _
    · cases e
  · obtain ⟨a1, vs, rfl, t1, q1⟩ := wTup ra
    obtain ⟨a2, ws, rfl, t2, q2⟩ := wTup rb
    split at e
    · rename_i hl
      cases e
      have l1 := q1.len
      have l2 := q2.len
      rw [hK] at t1 t2
      refine op_catA pins s σ H _ _ v u Q I rx ry ⟨a1, a2, vs, ws, rfl, rfl, t1, t2, by rw [l1, l2]; exact most_line hl, fun e0 => ?_, fun _ e0 => ?_, fun _ _ => p.tup S (q1.app q2)⟩
      · subst e0
        cases q1
        exact p.here S (.tup (by rw [hK]; exact t2) q2)
      · subst e0
        cases q2
        exact p.here S (.tup (by rw [hK]; exact t1) (by rw [List.append_nil]; exact q1))
    · cases e
  · -- lists
    rename_i d1 d2 n1 n2 n3
    obtain ⟨l1, e1, e⟩ := Option.bind_eq_some_iff.mp e
    obtain ⟨l2, e2, e⟩ := Option.bind_eq_some_iff.mp e
    split at e
    · rename_i hl
      cases e
      obtain ⟨a1, vs, rfl, t1, q1⟩ := lstAt S ra e1
      obtain ⟨a2, ws, rfl, t2, q2⟩ := lstAt S rb e2
      exact op_catR pins s σ H _ _ v u Q I rx ry ⟨a1, a2, vs, ws, rfl, rfl, t1, t2, by rw [q1.len, q2.len]; exact most_line hl, p.lst S (q1.app q2)⟩
    · cases e
  · cases wInt ra; cases wInt rb; cases e
    exact op_sub pins s σ H _ _ v u Q I rx ry ⟨_, _, rfl, rfl, p.here S (.int _)⟩
  · cases wInt ra; cases wInt rb
    split at e
    · rename_i hc
      cases e
      exact op_mulB pins s σ H _ _ v u Q I rx ry ⟨_, _, rfl, rfl, hc, p.here S (.int _)⟩
    · cases e
  · obtain ⟨a1, vs, rfl, t1, q1⟩ := wTup ra
    cases wInt rb
    split at e
    · rename_i hc
      cases e
      have l1 := q1.len
      rw [hK] at t1
      refine op_repA pins s σ H _ _ v u Q I rx ry ⟨a1, _, vs, rfl, rfl, t1, hc.1, hc.2.1, by rw [l1]; exact hc.2.2, fun e0 => ?_, fun _ => p.tup S (q1.rep _)⟩
      refine p.here S (.tup (by rw [hK]; exact t1) ?_)
      rcases e0 with e0 | e0
      · subst e0
        cases q1
        simp
        exact .nil
      · subst e0
        simpa using q1
    · cases e
  · obtain ⟨z, rfl, e1⟩ := wStr ra
    cases wInt rb
    split at e
    · rename_i hc
      cases e
      refine op_mulS pins s σ H _ _ v u Q I rx ry ⟨z, _, rfl, rfl, hc.1, hc.2.1, by rw [str_len, e1]; exact hc.2.2, p.here S ?_⟩
      rw [← e1]
      exact .str ⟨_⟩
    · cases e
  · obtain ⟨l1, e1, e⟩ := Option.bind_eq_some_iff.mp e
    cases wInt rb
    split at e
    · rename_i hc
      cases e
      obtain ⟨a1, vs, rfl, t1, q1⟩ := lstAt S ra e1
      refine op_repR pins s σ H _ _ v u Q I rx ry ⟨a1, _, vs, rfl, rfl, t1, Int.le_trans (by decide) hc.1, Int.lt_of_le_of_lt hc.2.1 (by decide), ?_, p.lst S (q1.rep _)⟩
      rw [q1.len, sizeLine_eq]
      exact Nat.le_trans (Nat.mul_le_mul hc.2.2 (Int.toNat_le.mpr hc.2.1 : _ ≤ 1000)) (by decide)
    · cases e
  · cases wInt ra; cases wInt rb
    split at e
    · rename_i hc
      cases e
      exact op_fdivB pins s σ H _ _ v u Q I rx ry ⟨_, _, rfl, rfl, hc, p.here S (.int _)⟩
    · cases e
  · cases wInt ra; cases wInt rb
    split at e
    · rename_i hc
      cases e
      exact op_modB pins s σ H _ _ v u Q I rx ry ⟨_, _, rfl, rfl, hc, p.here S (.int _)⟩
    · cases e
  · cases wInt ra; cases wInt rb
    split at e
    · rename_i hc
      cases e
      exact op_pow pins s σ H _ _ v u Q I rx ry ⟨_, _, rfl, rfl, hc, p.here S (.int _)⟩
    · cases e
  · cases wInt ra; cases wInt rb
    split at e
    · rename_i hc
      cases e
      exact op_shl pins s σ H _ _ v u Q I rx ry ⟨_, _, rfl, rfl, hc, p.here S (.int _)⟩
    · cases e
  · cases wInt ra; cases wInt rb
    split at e
    · rename_i hc
      cases e
      exact op_shr pins s σ H _ _ v u Q I rx ry ⟨_, _, rfl, rfl, hc, p.here S (.int _)⟩
    · cases e
  · cases wInt ra; cases wInt rb; cases e
    exact op_and pins s σ H _ _ v u Q I rx ry ⟨_, _, rfl, rfl, p.here S (.int _)⟩
  · cases e

/-! ### comparisons -/
mutual
def toPy : D → PyData
  | .non => .none
  | .bl b => .bool b
  | .int i => .int i
  | .str s => .str ⟨s.toArray⟩
  | .tup l => .tuple (toPys l)
  | .lst l => .list (toPys l)
  | .ref _ => .none
def toPys : List D → List PyData
  | [] => []
  | a :: r => toPy a :: toPys r
end
mutual
theorem eqv_py : ∀ (n m : Nat) (a b : D), eqOk n a = true → eqOk m b = true → PyData.eqv (toPy a) (toPy b) = decide (a = b)
  | n, m, .non, b, h1, h2 => by cases b <;> simp [toPy, PyData.eqv]  <;> (cases m <;> simp [eqOk] at h2)
  | n, m, .bl x, b, h1, h2 => by cases n <;> simp [eqOk] at h1
  | n, m, .int x, b, h1, h2 => by
    cases b with
    | int y => simp only [toPy, PyData.eqv, D.int.injEq]; rw [Bool.eq_iff_iff]; simp
    | bl k => cases m <;> simp [eqOk] at h2
    | ref k => cases m <;> simp [eqOk] at h2
    | _ => simp [toPy, PyData.eqv]
  | n, m, .str x, b, h1, h2 => by
    cases b with
    | str y =>
      simp only [toPy, PyData.eqv, D.str.injEq]
      rw [Bool.eq_iff_iff]
      simp
    | bl k => cases m <;> simp [eqOk] at h2
    | ref k => cases m <;> simp [eqOk] at h2
    | _ => simp [toPy, PyData.eqv]
  | 0, m, .tup x, b, h1, h2 => by simp [eqOk] at h1
  | n + 1, m, .tup x, b, h1, h2 => by
    cases b with
    | tup y =>
      cases m with
      | zero => simp [eqOk] at h2
      | succ m => simp [toPy, PyData.eqv, eqvs_py n m x y (by simpa [eqOk] using h1) (by simpa [eqOk] using h2)]
    | ref k => cases m <;> simp [eqOk] at h2
    | bl k => cases m <;> simp [eqOk] at h2
    | _ => simp [toPy, PyData.eqv]
  | 0, m, .lst x, b, h1, h2 => by simp [eqOk] at h1
  | n + 1, m, .lst x, b, h1, h2 => by
    cases b with
    | lst y =>
      cases m with
      | zero => simp [eqOk] at h2
      | succ m => simp [toPy, PyData.eqv, eqvs_py n m x y (by simpa [eqOk] using h1) (by simpa [eqOk] using h2)]
    | ref k => cases m <;> simp [eqOk] at h2
    | bl k => cases m <;> simp [eqOk] at h2
    | _ => simp [toPy, PyData.eqv]
  | n, m, .ref x, b, h1, h2 => by cases n <;> simp [eqOk] at h1
theorem eqvs_py : ∀ (n m : Nat) (a b : List D), eqOks n a = true → eqOks m b = true → PyData.eqvAll (toPys a) (toPys b) = decide (a = b)
  | n, m, [], b, h1, h2 => by cases b <;> simp [toPys, PyData.eqvAll]
  | n, m, x :: r, b, h1, h2 => by
    cases b with
    | nil => simp [toPys, PyData.eqvAll]
    | cons y q =>
      simp only [eqOks, Bool.and_eq_true] at h1 h2
      simp [toPys, PyData.eqvAll, eqv_py n m x y h1.1 h2.1, eqvs_py n m r q h1.2 h2.2]
end
mutual
theorem shaped_py : ∀ (n : Nat) (a : D), eqOk n a = true → (toPy a).canLay0 = true ∧ (toPy a).depth ≤ n
  | n, .non, h => by simp [toPy, PyData.canLay0, PyData.depth]
  | n, .bl x, h => by cases n <;> simp [eqOk] at h
  | n, .int x, h => by simp [toPy, PyData.canLay0, PyData.depth]
  | n, .str x, h => by
    have h' : (x.all fun c => decide (c < 1114112)) = true := by cases n <;> simpa [eqOk] using h
    refine ⟨?_, by simp [toPy, PyData.depth]⟩
    show PyData.canLay0 (.str ⟨x.toArray⟩) = true
    unfold PyData.canLay0 PyData.strOk
    rw [List.all_eq_true] at h'
    rw [Array.all_eq_true']
    intro c hc
    exact h' c (by simpa using hc)
  | 0, .tup x, h => by simp [eqOk] at h
  | n + 1, .tup x, h => by
    obtain ⟨h1, h2⟩ := shapeds_py n x (by simpa [eqOk] using h)
    exact ⟨by simpa [toPy, PyData.canLay0] using h1, by simpa [toPy, PyData.depth] using h2⟩
  | 0, .lst x, h => by simp [eqOk] at h
  | n + 1, .lst x, h => by
    obtain ⟨h1, h2⟩ := shapeds_py n x (by simpa [eqOk] using h)
    exact ⟨by simpa [toPy, PyData.canLay0] using h1, by simpa [toPy, PyData.depth] using h2⟩
  | n, .ref x, h => by cases n <;> simp [eqOk] at h
theorem shapeds_py : ∀ (n : Nat) (a : List D), eqOks n a = true → PyData.canLayAll0 (toPys a) = true ∧ PyData.depthAll (toPys a) ≤ n
  | n, [], h => by simp [toPys, PyData.canLayAll0, PyData.depthAll]
  | n, x :: r, h => by
    simp only [eqOks, Bool.and_eq_true] at h
    obtain ⟨h1, h2⟩ := shaped_py n x h.1
    obtain ⟨h3, h4⟩ := shapeds_py n r h.2
    exact ⟨by simp [toPys, PyData.canLayAll0, h1, h3], by simp [toPys, PyData.depthAll]; omega⟩
end
theorem shaped60 {a : D} (h : eqOk 60 a = true) : SeqAt.shaped (toPy a) = true := by
  obtain ⟨h1, h2⟩ := shaped_py 60 a h
  unfold SeqAt.shaped
  rw [h1, Bool.true_and]
  exact decide_eq_true
                                                              (by omega)
section
variable {K : PySem.W.Frag} {W : Addr → Prop} {ρ : List Addr} {H : Hp}
mutual
theorem dp_of {n : Nat} : ∀ {v : V} {d : D}, Rep K W ρ H v d → eqOk n d = true → Dp K H v (toPy d)
  | _, _, .non, _ => .non
  | _, _, .bl b, _ => .bl b
  | _, _, .int i, _ => .int i
  | _, _, .str z, _ => by
    have e : (⟨z.cps.toList.toArray⟩ : Str) = z := by simp
    show Dp K H (.str z) (.str ⟨z.cps.toList.toArray⟩)
    rw [e]
    exact .str z
  | _, _, .tup h r, q => by
    cases n with
    | zero => simp [eqOk] at q
    | succ n => exact .tup h (dps_of (n := n) r (by simpa [eqOk] using q))
  | _, _, .lst h _ r, q => by
    cases n with
    | zero => simp [eqOk] at q
    | succ n => exact .lst (.inl h) (dps_of (n := n) r (by simpa [eqOk] using q))
  | _, _, .ref h, q => by cases n <;> simp [eqOk] at q
theorem dps_of {n : Nat} : ∀ {v : List V} {d : List D}, Reps K W ρ H v d → eqOks n d = true → DpAll K H v (toPys d)
  | _, _, .nil, _ => .nil
  | _, _, .cons h r, q => by
    simp only [eqOks, Bool.and_eq_true] at q
    exact .cons (dp_of h q.1) (dps_of r q.2)
end
theorem dp_ofW {n : Nat} {v : V} {d : D} (r : WRep K W ρ H v d) (h : eqOk n d = true) : Dp K H v (toPy d) := by
  rcases r with r | ⟨a, vs, l, rfl, rfl, q1, q2, q3⟩
  · exact dp_of r h
  · cases n with
    | zero => simp [eqOk] at h
    | succ n => exact .lst (.inl (.inl q1)) (dps_of (n := n) q3 (by simpa [eqOk] using h))
end
section
variable {K : PySem.W.Frag} {W : Addr → Prop} {ρ : List Addr} {H : Hp}
theorem flat_of {v : V} {d : D} (r : Rep K W ρ H v d) (h : isFlat d = true) : flatV v = true := by
  cases r <;> first | rfl | (simp [isFlat] at h)
theorem flat_eq {v u : V} {d e : D} (r : Rep K W ρ H v d) (q : Rep K W ρ H u e) (h : isFlat d = true) (h2 : isFlat e = true) : eqV v u = decide (d = e) := by
  cases r <;> first | (simp [isFlat] at h; done) | skip
  all_goals (cases q <;> first | (simp [isFlat] at h2; done) | skip)
  all_goals first | rfl | skip
  all_goals (simp [eqV])
  all_goals (rw [Bool.eq_iff_iff]; simp [Str.ext_iff'])
theorem flats_of {vs : List V} {ds : List D} (r : Reps K W ρ H vs ds) (h : ds.all isFlat = true) : vs.all flatV = true := by
  induction ds generalizing vs with
  | nil => cases r; rfl
  | cons d ds ih =>
    cases r with
    | cons p r =>
      simp only [List.all_cons, Bool.and_eq_true] at h ⊢
      exact ⟨flat_of p h.1, ih r h.2⟩
theorem inV_of {v : V} {d : D} (q : Rep K W ρ H v d) (hd : isFlat d = true) {vs : List V} {ds : List D} (r : Reps K W ρ H vs ds) (h : ds.all isFlat = true) : inV v vs = decide (d ∈ ds) := by
  induction ds generalizing vs with
  | nil => cases r; rfl
  | cons e ds ih =>
    cases r with
    | cons p r =>
      simp only [List.all_cons, Bool.and_eq_true]
                                                                  at h
      show (eqV _ v || inV v _) = _
      rw [ih r h.2, flat_eq p q h.1 hd]
      by_cases e1 : e = d
      · subst e1; simp
      · have e2 : ¬ d = e := fun z => e1 z.symm
        simp [e1, e2]
end
def rCmp (B : Bx) (o : CmpOp) : R2 := fun x y H Q => ∃ W ρ env h σ a b r, SR B W ρ env h σ H ∧ WRep B.K W ρ H x a ∧ WRep B.K W ρ H y b ∧ cmpD h o a b = some r ∧ Post B W ρ H env σ h (.bl r) Q
theorem op_cmp {X : Cx} {B : Bx} (hK : B.K = X.K) (hu : X.A.units + 64 < cLine) (o : CmpOp) : OpR X (compareOp o) (rCmp B o) := by
  intro pins s σ H x y v u Q I rx ry hh
  obtain ⟨W, ρ, env, h, σ', a, b, r, S, ra, rb, e, p⟩ := hh
  have eqs : ∀ (r0 : Bool), eqD a b = some r0 → (∃ x' y', a = .bl x' ∧ b = .bl y' ∧ r0 = (x' == y')) ∨ (eqOk 60 a = true ∧ eqOk 60 b = true ∧ r0 = decide (a = b)) := fun r0 e => by
    unfold eqD at e
    split at e
    · cases e
      exact .inl ⟨_, _, rfl, rfl, rfl⟩
    · split at e
      · rename_i hc
        cases e
        rw [Bool.and_eq_true] at hc
        exact .inr ⟨hc.1, hc.2, rfl⟩
      · cases e
  have ins : ∀ (r0 : Bool), inD h a b = some r0 → (∃ z w : Str, x = .str z ∧ y = .str w ∧ r0 = !(Builtin.Str.occurrences w z 0 w.length 1).isEmpty) ∨
      (∃ q vs, y = .ref q ∧ (SqL X.K H q vs ∨ SqT X.K H q vs) ∧ flatV x = true ∧ vs.all flatV = true ∧ r0 = inV x vs) := fun r0 e => by
    unfold inD at e
    split at e
    · cases e
      obtain ⟨z, rfl, e1⟩ := wStr ra
      obtain ⟨w, rfl, e2⟩ := wStr rb
      refine .inl ⟨z, w, rfl, rfl, ?_⟩
      rw [← e1, ← e2, ← str_len]
    · obtain ⟨q, vs, rfl, t, rs⟩ := wTup rb
      split at e
      · rename_i hc
        cases e
        rw [Bool.and_eq_true] at hc
        have fa := strong_of ra (fun l z => by rw [z] at hc; simp [isFlat] at hc)
        exact .inr ⟨q, vs, rfl, .inr (hK ▸ t), flat_of fa hc.1, flats_of rs hc.2, (inV_of fa hc.1 rs hc.2).symm⟩
      · cases e
    · obtain ⟨l, e1, e⟩ := Option.bind_eq_some_iff.mp e
      obtain ⟨q, vs, rfl, t, rs⟩ := lstAt S rb e1
      split at e
      · rename_i hc
        cases e
        rw [Bool.and_eq_true] at hc
        have fa := strong_of ra (fun l z => by rw [z] at hc; simp [isFlat] at hc)
        exact .inr ⟨q, vs, rfl, .inl (.inl t), flat_of fa hc.1, flats_of rs hc.2, (inV_of fa hc.1 rs hc.2).symm⟩
      · cases e
  unfold cmpD at e
  split at e
  · rcases eqs r e with ⟨x', y', rfl, rfl, rfl⟩ | ⟨h1, h2, rfl⟩
    · cases wBl ra; cases wBl rb
      refine op_eq pins s σ H _ _ v u Q I rx ry ⟨rfl, ?_⟩
      rw [dec_bl]
      exact p.here S (.bl _)
    · refine op_eqD hu pins s σ H _ _ v u Q I rx ry ⟨_, _, hK ▸ dp_ofW ra h1, hK ▸ dp_ofW rb h2, shaped60 h1, shaped60 h2, ?_⟩
      rw [eqv_py _ _ _ _ h1 h2]
      exact p.here S (.bl _)
  · obtain ⟨r0, e0, rfl⟩ := Option.map_eq_some_iff.mp e
    rcases eqs r0 e0 with ⟨x', y', rfl, rfl, rfl⟩ | ⟨h1, h2, rfl⟩
    · cases wBl ra; cases wBl rb
      refine op_ne pins s σ H _ _ v u Q I rx ry ⟨rfl, ?_⟩
      rw [dec_bl]
      exact p.here S (.bl _)
    · refine op_neD hu pins s σ H _ _ v u Q I rx ry ⟨_, _, hK ▸ dp_ofW ra h1, hK ▸ dp_ofW rb h2, shaped60 h1, shaped60 h2, ?_⟩
      rw [eqv_py _ _ _ _ h1 h2]
      exact p.here S (.bl _)
  · cases wInt ra; cases wInt rb; cases e
    exact op_lt pins s σ H _ _ v u Q I rx ry ⟨_, _, rfl, rfl, p.here S (.bl _)⟩
  · cases wInt ra; cases wInt rb; cases e
    exact op_le pins s σ H _ _ v u Q I rx ry ⟨_, _, rfl, rfl, p.here S (.bl _)⟩
  · cases wInt ra; cases wInt rb; cases e
    exact op_gt pins s σ H _ _ v u Q I rx ry ⟨_, _, rfl, rfl, p.here S (.bl _)⟩
  · cases wInt ra; cases wInt rb; cases e
    exact op_ge pins s σ H _ _ v u Q I rx ry ⟨_, _, rfl, rfl, p.here S (.bl _)⟩
  · cases wNon rb; cases e
    refine op_isN pins s σ H _ _ v u Q I rx ry ⟨rfl, ?_⟩
    have : decide (x = V.non) = decide (a = D.non) := by
      rcases ra with ra | ⟨q, vs, l, rfl, rfl, _⟩
      · cases ra <;> simp
      · simp
    rw [this]
    exact p.here S (.bl _)
  · cases wNon rb; cases e
    refine op_notN pins s σ H _ _ v u Q I rx ry ⟨rfl, ?_⟩
    have : (!decide (x = V.non)) = decide (a ≠ D.non) := by
      rcases ra with ra | ⟨q, vs, l, rfl, rfl, _⟩
      · cases ra <;> simp
      · simp
    rw [this]
    exact p.here S (.bl _)
  · cases wBl ra; cases wBl rb; cases e
    exact op_isBl pins s σ H _ _ v u Q I rx ry ⟨_, _, rfl, rfl, p.here S (.bl _)⟩
  · cases wBl ra; cases wBl rb; cases e
    refine op_notBl pins s σ H _ _ v u Q I rx ry ⟨_, _, rfl, rfl, ?_⟩
    have := p.here S (.bl _)
    simpa using this
  · rcases ins r e with ⟨z, w, rfl, rfl, rfl⟩ | ⟨q, vs, rfl, hs, f1, f2, rfl⟩
    · exact op_in_str pins s σ H _ _ v u Q I rx ry ⟨_, _, rfl, rfl, p.here S (.bl _)⟩
    · exact op_in_seq pins s σ H _ _ v u Q I rx ry ⟨_, _, rfl, hs, f1, f2, p.here S (.bl _)⟩
  · obtain ⟨r0, e0, rfl⟩ := Option.map_eq_some_iff.mp e
    rcases ins r0 e0 with ⟨z, w, rfl, rfl, rfl⟩ | ⟨q, vs, rfl, hs, f1, f2, rfl⟩
    · exact op_notin_str pins s σ H _ _ v u Q I rx ry ⟨_, _, rfl, rfl, p.here S (.bl _)⟩
    · exact op_notIn_seq pins s σ H _ _ v u Q I rx ry ⟨_, _, rfl, hs, f1, f2, p.here S (.bl _)⟩
  · cases e

/-! ### subscripts, slices -/
theorem atI_nats {l : List Nat} {i : Int} {c : Nat} (h : atI l i = some c) : atI l i = some c := h
def rIdx (B : Bx) : R2 := fun x y H Q => ∃ W ρ env h σ a b r, SR B W ρ env h σ H ∧ WRep B.K W ρ H x a ∧ WRep B.K W ρ H y b ∧ idxD h a b = some r ∧ Post B W ρ H env σ h r Q
theorem ix_all {X : Cx} {B : Bx} (hK : B.K = X.K) : IxR X (rIdx B) := by
  intro value slice pins s σ H x y v u Q I rx ry hh hs
  obtain ⟨W, ρ, env, h, σ', a, b, r, S, ra, rb, e, p⟩ := hh
  unfold idxD at e
  split at e
  · obtain ⟨q, vs, rfl, t, rs⟩ := wTup ra
    cases wInt rb
    obtain ⟨w, e1, rw1⟩ := rs.at e
    exact ix_tup value slice pins s σ H _ _ v u Q I rx ry ⟨q, vs, _, w, rfl, rfl, hK ▸ t, e1, p.here S rw1⟩ hs
  · obtain ⟨z, rfl, e1⟩ := wStr ra
    cases wInt rb
    split at e
    · rename_i hl
      obtain ⟨c, e2, rfl⟩ := Option.map_eq_some_iff.mp e
      refine ix_str value slice pins s σ H _ _ v u Q I rx ry ⟨z, _, c, rfl, rfl, by rw [str_len, e1]; exact most_line hl, by rw [e1]; exact e2, p.here S ?_⟩ hs
      exact .str ⟨#[c]⟩
    · cases e
  · obtain ⟨l, e1, e⟩ := Option.bind_eq_some_iff.mp e
    obtain ⟨q, vs, rfl, t, rs⟩ := lstAt S ra e1
    cases wInt rb
    obtain ⟨w, e1, rw1⟩ := rs.at e
    exact ix_list value slice pins s σ H _ _ v u Q I rx ry ⟨q, vs, _, w, rfl, rfl, .inl t, e1, p.here S rw1⟩ hs
  · cases e
def rSlc (B : Bx) : V → Option Int → Option Int → Hp → VK → Prop := fun x lo hi H Q => ∃ W ρ env h σ a r, SR B W ρ env h σ H ∧ WRep B.K W ρ H x a ∧ slcD h a lo hi = some r ∧ PostX B W ρ H env σ h r Q
theorem cutS_cps (z : Str) (lo hi : Option Int) : (cutS z lo hi).cps.toList = cutD z.cps.toList lo hi := by
  unfold cutS cutD
  simp [str_len]
theorem sl_all {X : Cx} {B : Bx} (hK : B.K = X.K) : SlR X (rSlc B) := by
  intro pins s σ H x v vl vu lo hi sl Q I rx hs pl pu hh
  obtain ⟨W, ρ, env, h, σ', a, r, S, ra, e, p⟩ := hh
  unfold slcD at e
  split at e
  · obtain ⟨q, vs, rfl, t, rs⟩ := wTup ra
    cases e
    refine sl_tupA pins s σ H _ v vl vu lo hi sl Q I rx hs pl pu ⟨q, vs, rfl, hK ▸ t, fun e0 => ?_, fun _ => p.tup S (rs.cut lo hi)⟩
    refine p.here S ?_
    rename_i ds
    have e2 : cutD ds lo hi = ds := by
      unfold cutD
      rw [← rs.len, e0.1, e0.2, rs.len]
      simp
    rw [e2]
    exact .tup t rs
  · obtain ⟨z, rfl, e1⟩ := wStr ra
    split at e
    · rename_i hl
      cases e
      refine sl_str pins s σ H _ v vl vu lo hi sl Q I rx hs pl pu ⟨z, rfl, by rw [str_len, e1]; exact most_line hl, p.here S ?_⟩
      rw [← e1, ← cutS_cps]
      exact .str _
    · cases e
  · obtain ⟨l, e1, rfl⟩ := Option.map_eq_some_iff.mp e
    obtain ⟨q, vs, rfl, t, rs⟩ := lstAt S ra e1
    exact sl_list pins s σ H _ v vl vu lo hi sl Q I rx hs pl pu ⟨q, vs, rfl, .inl t, p.lst S (rs.cut lo hi)⟩

/-! ### built-in functions -/
inductive WReps (K : PySem.W.Frag) (W : Addr → Prop) (ρ : List Addr) (H : Hp) : List V → List D → Prop
  | nil : WReps K W ρ H [] []
  | cons {v : V} {d : D} {vs : List V} {ds : List D} : WRep K W ρ H v d → WReps K W ρ H vs ds → WReps K W ρ H (v :: vs) (d :: ds)
section
variable {K : PySem.W.Frag} {W : Addr → Prop} {ρ : List Addr} {H : Hp}
theorem WReps.one {vs : List V} {d : D} (r : WReps K W ρ H vs [d]) : ∃ v, vs = [v] ∧ WRep K W ρ H v d := by
  cases r with | cons h q => cases q; exact ⟨_, rfl, h⟩
theorem WReps.two {vs : List V} {d e : D} (r : WReps K W ρ H vs [d, e]) : ∃ v u, vs = [v, u] ∧ WRep K W ρ H v d ∧ WRep K W ρ H u e := by
  cases r with | cons h q => cases q with | cons h2 q => cases q; exact ⟨_, _, rfl, h, h2⟩
theorem ints_of {vs : List V} {l : List D} {ns : List Int} (r : Reps K W ρ H vs l) (e : intsOf l = some ns) : vs = ns.map V.int := by
  induction l generalizing vs ns with
  | nil => cases e; cases r; rfl
  | cons d l ih =>
    cases r with
    | cons h q =>
      cases d with
      | int i =>
        obtain ⟨ms, e1, rfl⟩ := Option.map_eq_some_iff.mp e
        cases h
        rw [List.map_cons, ih q e1]
      | _ => cases e
theorem bls_of {vs : List V} {l : List D} {ns : List Bool} (r : Reps K W ρ H vs l) (e : blsOf l = some ns) : vs = ns.map V.bl := by
  induction l generalizing vs ns with
  | nil => cases e; cases r; rfl
  | cons d l ih =>
    cases r with
    | cons h q =>
      cases d with
      | bl i =>
        obtain ⟨ms, e1, rfl⟩ := Option.map_eq_some_iff.mp e
        cases h
        rw [List.map_cons, ih q e1]
      | _ => cases e
end
theorem signs_rep {K : PySem.W.Frag} {W : Addr → Prop} {ρ : List Addr} {H : Hp} : ∀ l : List Nat, Reps K W ρ H (l.map fun c => V.str ⟨#[c]⟩) (l.map fun c => D.str [c])
  | [] => .nil
  | c :: r => .cons (.str ⟨#[c]⟩) (signs_rep r)
theorem strs_of {K : PySem.W.Frag} {W : Addr → Prop} {ρ : List Addr} {H : Hp} : ∀ {vs : List V} {l : List D} {ls : List (List Nat)}, Reps K W ρ H vs l → strsOf l = some ls → ∃ ys : List Str, vs = ys.map V.str ∧ ys.map TL.tl = ls
  | _, [], _, r, e => by cases e; cases r; exact ⟨[], rfl, rfl⟩
  | _, d :: l, _, r, e => by
    cases r with
    | cons h q =>
      cases d with
      | str i =>
        obtain ⟨ms, e1, rfl⟩ := Option.map_eq_some_iff.mp e
        obtain ⟨ys, rfl, e2⟩ := strs_of q e1
        cases h
        rename_i z
        exact ⟨z :: ys, rfl, by rw [List.map_cons, e2]⟩
      | _ => cases e
def prVal : Pr → Value
  | .len => .builtin "len"
  | .abs => .builtin "abs"
  | .max2 => .builtin "max"
  | .min2 => .builtin "min"
  | .tuple => .type "tuple"
  | .list => .type "list"
  | .int => .type "int"
  | .gcd => .builtin "math.gcd"
  | .sum => .builtin "sum"
  | .all => .builtin "all"
  | .any => .builtin "any"
  | .str => .type "str"
def rPr (B : Bx) (k : Pr) : List V → Hp → VK → Prop := fun vs H Q => ∃ W ρ env h σ ds r, SR B W ρ env h σ H ∧ WReps B.K W ρ H vs ds ∧ prD h k ds = some r ∧ PostX B W ρ H env σ h r Q
theorem call_pr {X : Cx} {B : Bx} (hK : B.K = X.K) (hc : X.calm = true) (k : Pr) : CallR X (prVal k) (rPr B k) := by
  intro pins s σ H vs us Q I rv hh
  obtain ⟨W, ρ, env, h, σ', ds, r, S, ra, e, p⟩ := hh
  unfold prD at e
  split at e
  · obtain ⟨v, rfl, q⟩ := ra.one
    obtain ⟨z, rfl, e1⟩ := wStr q
    split at e
    · rename_i hl
      cases e
      refine call_len_str pins s σ H _ us Q I rv ⟨z, rfl, by rw [str_len, e1]; exact most_line hl, ?_⟩
      rw [str_len, e1]
      exact p.here S (.int _)
    · cases e
  · obtain ⟨v, rfl, q⟩ := ra.one
    obtain ⟨a, vs, rfl, t, rs⟩ := wTup q
    cases e
    refine call_len_seq pins s σ H _ us Q I rv ⟨a, vs, rfl, .inr (hK ▸ t), ?_⟩
    rw [rs.len]
    exact p.here S (.int _)
  · obtain ⟨v, rfl, q⟩ := ra.one
    obtain ⟨l, e1, rfl⟩ := Option.map_eq_some_iff.mp e
    obtain ⟨a, vs, rfl, t, rs⟩ := lstAt S q e1
    refine call_len_seq pins s σ H _ us Q I rv ⟨a, vs, rfl, .inl (.inl t), ?_⟩
    rw [rs.len]
    exact p.here S (.int _)
  · obtain ⟨v, rfl, q⟩ := ra.one
    cases wInt q; cases e
    exact call_abs pins s σ H _ us Q I rv ⟨_, rfl, p.here S (.int _)⟩
  · obtain ⟨v, u, rfl, q1, q2⟩ := ra.two
    cases wInt q1; cases wInt q2; cases e
    exact call_max2 hc pins s σ H _ us Q I rv ⟨_, _, rfl, p.here S (.int _)⟩
  · obtain ⟨v, u, rfl, q1, q2⟩ := ra.two
    cases wInt q1; cases wInt q2; cases e
    exact call_min2 hc pins s σ H _ us Q I rv ⟨_, _, rfl, p.here S (.int _)⟩
  · obtain ⟨v, rfl, q⟩ := ra.one
    obtain ⟨a, vs, rfl, t, rs⟩ := wTup q
    cases e
    exact call_tuple_of pins s σ H _ us Q I rv ⟨a, vs, rfl, .inr ⟨hK ▸ t, p.here S (.tup t rs)⟩⟩
  · obtain ⟨v, rfl, q⟩ := ra.one
    obtain ⟨z, rfl, e1⟩ := wStr q
    split at e
    · rename_i hl
      cases e
      refine call_tuple_str hc pins s σ H _ us Q I rv ⟨z, rfl, by rw [str_len, e1]; exact most_line hl, p.tup S ?_⟩
      rw [← e1]
      exact signs_rep _
    · cases e
  · obtain ⟨v, rfl, q⟩ := ra.one
    obtain ⟨l, e1, rfl⟩ := Option.map_eq_some_iff.mp e
    obtain ⟨a, vs, rfl, t, rs⟩ := lstAt S q e1
    exact call_tuple_of pins s σ H _ us Q I rv ⟨a, vs, rfl, .inl ⟨.inl t, p.tup S rs⟩⟩
  · obtain ⟨v, rfl, q⟩ := ra.one
    obtain ⟨a, vs, rfl, t, rs⟩ := wTup q
    cases e
    exact call_list_of pins s σ H _ us Q I rv ⟨a, vs, rfl, .inr (hK ▸ t), p.lst S rs⟩
  · obtain ⟨v, rfl, q⟩ := ra.one
    obtain ⟨l, e1, rfl⟩ := Option.map_eq_some_iff.mp e
    obtain ⟨a, vs, rfl, t, rs⟩ := lstAt S q e1
    exact call_list_of pins s σ H _ us Q I rv ⟨a, vs, rfl, .inl (.inl t), p.lst S rs⟩
  · obtain ⟨v, rfl, q⟩ := ra.one
    cases wInt q; cases e
    exact call_int1 pins s σ H _ us Q I rv (.inl ⟨_, rfl, p.here S (.int _)⟩)
  · obtain ⟨v, rfl, q⟩ := ra.one
    cases wBl q; cases e
    exact call_int1 pins s σ H _ us Q I rv (.inr ⟨_, rfl, p.here S (.int _)⟩)
  · obtain ⟨v, rfl, q⟩ := ra.one
    obtain ⟨z, rfl, e1⟩ := wStr q
    split at e
    · rename_i hl
      cases e
      subst e1
      refine call_int_str pins s σ H _ us Q I rv ⟨z, _, rfl, intText_digits (x := z) (fun c hc => ?_) hl.2.1 (by rw [str_len]; omega), by rw [str_len]; exact hl.2.2, p.here S (.int _)⟩
      exact of_decide_eq_true (List.all_eq_true.mp hl.1 c hc)
    · cases e
  · obtain ⟨v, rfl, q⟩ := ra.one
    cases wInt q
    split at e
    · rename_i hl
      cases e
      refine call_str_int pins s σ H _ us Q I rv ⟨_, rfl, hl, p.here S ?_⟩
      rw [show ∀ s : String, cs s = (Str.ofString s).cps.toList from fun s => (TL.tl_ofString s).symm]
      exact .str _
    · cases e
  · obtain ⟨v, rfl, q⟩ := ra.one
    obtain ⟨z, rfl, e1⟩ := wStr q
    cases e
    refine SkE.call_str_str pins s σ H _ us Q I rv ⟨z, rfl, p.here S ?_⟩
    rw [← e1]
    exact .str _
  · obtain ⟨v, u, rfl, q1, q2⟩ := ra.two
    cases wInt q1; cases wInt q2; cases e
    exact cr_gcd pins s σ H _ us Q I rv ⟨_, _, rfl, p.here S (.int _)⟩
  · obtain ⟨v, rfl, q⟩ := ra.one
    obtain ⟨l, e1, e⟩ := Option.bind_eq_some_iff.mp e
    obtain ⟨ns, e2, rfl⟩ := Option.map_eq_some_iff.mp e
    obtain ⟨a, vs, rfl, t, rs⟩ := lstAt S q e1
    have := ints_of rs e2
    subst this
    exact cr_sum hc pins s σ H _ us Q I rv ⟨a, ns, rfl, .inl t, p.here S (.int _)⟩
  · obtain ⟨v, rfl, q⟩ := ra.one
    obtain ⟨l, e1, e⟩ := Option.bind_eq_some_iff.mp e
    obtain ⟨ns, e2, rfl⟩ := Option.map_eq_some_iff.mp e
    obtain ⟨a, vs, rfl, t, rs⟩ := lstAt S q e1
    have := bls_of rs e2
    subst this
    exact cr_all hc pins s σ H _ us Q I rv ⟨a, ns, rfl, .inl t, p.here S (.bl _)⟩
  · obtain ⟨v, rfl, q⟩ := ra.one
    obtain ⟨l, e1, e⟩ := Option.bind_eq_some_iff.mp e
    obtain ⟨ns, e2, rfl⟩ := Option.map_eq_some_iff.mp e
    obtain ⟨a, vs, rfl, t, rs⟩ := lstAt S q e1
    have := bls_of rs e2
    subst this
    exact cr_any hc pins s σ H _ us Q I rv ⟨a, ns, rfl, .inl t, p.here S (.bl _)⟩
  · cases e
/-- truth -/
theorem tru_of {B : Bx} {W : Addr → Prop} {ρ : List Addr} {H : Hp} {env : Env} {h : Hh} {σ : L2.St} (S : SR B W ρ env h σ H) {v : V} {d : D} {b : Bool} (r : WRep B.K W ρ H v d) (e : truD h d = some b) : TruV B.K v H b := by
  unfold truD at e
  split at e
  · cases wNon r; cases e; rfl
  · cases wBl r; cases e; rfl
  · cases wInt r; cases e; rfl
  · obtain ⟨z, rfl, e1⟩ := wStr r
    split at e
    · rename_i hl
      cases e
      refine ⟨by rw [str_len, e1]; exact most_line hl, ?_⟩
      rw [str_len, e1, Bool.eq_iff_iff]
      simp
    · cases e
  · obtain ⟨a, vs, rfl, t, rs⟩ := wTup r
    cases e
    refine .inr (.inl ⟨vs, t, ?_⟩)
    cases rs <;> rfl
  · obtain ⟨l, e1, rfl⟩ := Option.map_eq_some_iff.mp e
    obtain ⟨a, vs, rfl, t, rs⟩ := lstAt S r e1
    refine .inl ⟨vs, .inl t, ?_⟩
    cases rs <;> rfl
end MP

/-! MP: a text is what is evaluated. -/
namespace MP
open PySem
open PySem.Spec
open PyProof.Rows
open L2

structure Ct where
  fns : List (Str × Nat)
  globs : List (Str × D)
  free : List Str
  bf : List (Str × String)
  N : List Str
  sc : Scope
  st : List Str
  /-- generators that may stand within one another -/
  sl : Nat

def plainName (x : Str) : Bool := !(x == ("__debug__" : Str)) && !(x == ("__classdict__" : Str)) && !(x == ("__name__" : Str))
def visB (sc : Scope) (x : Str) : Bool := match sc.names.lookup x with
  | some .local => true
  | some .cell => true
  | some .free => true
  | _ => false
def okVar (c : Ct) (i : Nat) (x : Str) : Bool := decide (c.N[i]? = some x) && (visB c.sc x && plainName x)
def okGl (c : Ct) (x : Str) : Bool := decide (c.sc.names.lookup x = some .globalImplicit) && plainName x
def isOwn : E → Bool
  | .own _ => true
  | _ => false
def noStar : Expr → Bool
  | .Starred .. => false
  | _ => true
def noSlice : Expr → Bool
  | .Slice .. => false
  | _ => true
/-- a test that is its value's truth -/
def plainT : Expr → Bool
  | .UnaryOp .Not _ _ => false
  | .BoolOp .. => false
  | .IfExp .. => false
  | .Compare .. => false
  | _ => true
def noCall0 : Expr → Bool
  | .Call (.Name ..) [] [] _ => false
  | _ => true
def noSet : Expr → Bool
  | .Set .. => false
  | _ => true
def prName : Pr → Str
  | .len => "len"
  | .abs => "abs"
  | .max2 => "max"
  | .min2 => "min"
  | .tuple => "tuple"
  | .list => "list"
  | .int => "int"
  | .gcd => "gcd"
  | .sum => "sum"
  | .all => "all"
  | .any => "any"
  | .str => "str"
def tyName : Ty → Str
  | .int => "int"
  | .bool => "bool"
  | .str => "str"
  | .tuple => "tuple"
  | .list => "list"
/-- forms that make a new list each time -/
def isFresh : E → Bool
  | .lst _ => true
  | .comp .. => true
  | .bin .. => true
  | .slc .. => true
  | .pr .. => true
  | _ => false
def esLen : Es → Nat
  | .nil => 0
  | .cons _ r => esLen r + 1
def okPr (c : Ct) (k : Pr) (x : Str) : Bool := decide (x = prName k) && (okGl c x && match k with
  | .gcd => decide ((x, "math.gcd") ∈ c.bf)
  | _ => decide (x ∈ c.free))
def fnAt (l : List (Str × Nat)) (f : Str) : Option (Str × Nat) := l.find? fun q => decide (q.1 = f)
def okFn (c : Ct) (f : Str) (x : Str) (n : Nat) : Bool := okGl c x && (decide (x = f) && decide (fnAt c.fns f = some (x, n)))
def opK : Bool → BoolOp
  | true => .And
  | false => .Or
/-- in a test: what tells a bool by itself -/
def tOk : E → Expr → Bool
  | .bop .., _ => true
  | .no _, _ => true
  | .cmp .., _ => true
  | .chain .., _ => true
  | _, e => plainT e
/- slots that a target stores -/
mutual
def tSl : T → List Nat
  | .nm i => [i]
  | .tp ts => tsSl ts
def tsSl : Ts → List Nat
  | .nil => []
  | .cons t r => tSl t ++ tsSl r
end
mutual
def chkT (c : Ct) : T → Expr → Bool
  | .nm i, e => match e with
    | .Name x _ => decide (c.N[i]? = some x) && decide (x ∈ c.st)
    | _ => false
  | .tp ts, e => match e with
    | .Tuple es _ _ => chkTs c ts es
    | _ => false
def chkTs (c : Ct) : Ts → List Expr → Bool
  | .nil, es => es.isEmpty
  | .cons t r, es => match es with
    | e :: q => noStar e && (chkT c t e && chkTs c r q)
    | [] => false
end
/-- the names of a comprehension's block -/
def ownP (N : List Str) (vs : List Nat) : List (Str × Nat) := vs.filterMap fun i => (N[i]?).map fun x => (x, i)
def blkCt (c : Ct) (scope : Scope) (vs : List Nat) : Ct := { c with
  sc := relS scope c.sc
  st := ((ownP c.N vs).map (·.1)).filter fun x => match scope.names.lookup x with
    | some .local => true
    | some .cell => true
    | _ => false }
def noComp : Expr → Bool
  | .ListComp .. => false
  | .SetComp .. => false
  | .DictComp .. => false
  | _ => true
def anName : Bool → Str
  | true => "all"
  | false => "any"
def noList : Expr → Bool
  | .List .. => false
  | _ => true
def genCt (c : Ct) (scope : Scope) (vs : List Nat) : Ct := { c with
  sc := scope
  st := ((ownP c.N vs).map (·.1)).filter fun x => match scope.names.lookup x with
    | some .local => true
    | some .cell => true
    | _ => false
  sl := c.sl - 1 }
def isLoc : Option NameKind → Bool
  | some .local => true
  | _ => false
def genC (N : List Str) (sc scope : Scope) (own : List (Str × Nat)) : Bool := blkC N sc scope own && (!scope.isCoroutine && isLoc (scope.names.lookup (".0" : Str)))
def chkKV : List (List Nat × List Nat) → List (Option Expr) → List Expr → Bool
  | [], [], [] => true
  | (k, v) :: r, some (.Constant (.str a) _ _) :: ks, (.Constant (.str b) _ _) :: vs => decide (k = a.cps.toList) && (decide (v = b.cps.toList) && chkKV r ks vs)
  | _, _, _ => false
mutual
/-- t: in a test -/
def chk (c : Ct) (t : Bool) : E → Expr → Bool
  | .var i, e => (!t || plainT e) && match e with
    | .Name x _ => okVar c i x
    | _ => false
  | .own i, e => (!t || plainT e) && match e with
    | .Name x _ => okVar c i x
    | _ => false
  | .gl x d, e => (!t || plainT e) && match e with
    | .Name y _ => decide (y = x) && (okGl c y && decide ((y, d) ∈ c.globs))
    | _ => false
  | .lit d, e => (!t || plainT e) && match e with
    | .Constant k _ _ => (match k with
      | .none => decide (d = .non)
      | .bool b => decide (d = .bl b)
      | .int i => decide (d = .int i)
      | .str s => decide (d = .str s.cps.toList)
      | _ => false)
    | _ => false
  | .tup es, e => (!t || plainT e) && match e with
    | .Tuple es' _ _ => chkEs c false true es es'
    | _ => false
  | .lst es, e => (!t || plainT e) && match e with
    | .List es' _ => chkEs c false true es es'
    | _ => false
  | .bin o a b, e => (!t || plainT e) && match e with
    | .BinOp a' o' b' _ => decide (o' = o) && (chk c false a a' && chk c false b b')
    | _ => false
  | .neg a, e => (!t || plainT e) && match e with
    | .UnaryOp .USub a' _ => chk c false a a'
    | _ => false
  | .cmp o a b, e => match e with
    | .Compare a' os bs _ => (match os, bs with
      | [o'], [b'] => decide (o' = o) && (chk c false a a' && (chk c false b b' && !behindInMarks o' b'))
      | _, _ => false)
    | _ => false
  | .chain o o2 a b d, e => match e with
    | .Compare a' os bs _ => (match os, bs with
      | [o', o2'], [b', d'] => decide (o' = o) && (decide (o2' = o2) && (chk c false a a' && (chk c false b b' && (chk c false d d' && (!behindInMarks o' b' && !behindInMarks o2' d')))))
      | _, _ => false)
    | _ => false
  | .bop k es, e => match e with
    | .BoolOp o es' _ => decide (o = opK k) && (chkEs c t true es es' && !es'.isEmpty)
    | _ => false
  | .no a, e => match e with
    | .UnaryOp .Not a' _ => chk c t a a' && !isOwn a
    | _ => false
  | .tru a, e => t && (plainT e && chk c false a e)
  | .ite k a b, e => (!t || plainT e) && match e with
    | .IfExp k' a' b' _ => chk c true k k' && (chk c false a a' && (chk c false b b' && (!isOwn a && (!isOwn b && !isOwn k))))
    | _ => false
  | .idx a b, e => (!t || plainT e) && match e with
    | .Subscript a' b' _ => chk c false a a' && (chk c false b b' && noSlice b')
    | _ => false
  | .slc a lo hi, e => (!t || plainT e) && match e with
    | .Subscript a' (.Slice lo' hi' none _) _ => chk c false a a' && (chkO c false lo lo' && chkO c false hi hi')
    | _ => false
  | .call f es, e => (!t || plainT e) && match e with
    | .Call (.Name x _) es' [] _ => okFn c f x es'.length && chkEs c false true es es'
    | _ => false
  | .bad, e => noComp e
  | .pr k es, e => (!t || plainT e) && match e with
    | .Call (.Name x _) es' [] _ => okPr c k x && (chkEs c false false es es' && !es'.isEmpty)
    | _ => false
  | .comp vs elt tg src ifs, e => (!t || plainT e) && match e with
    | .ListComp elt' [⟨tg', it', ifs', 0⟩] scope _ =>
      blkC c.N c.sc scope (ownP c.N vs) && (chkSrc c true src it' tg' && (chkT (blkCt c scope vs) tg tg' && (decide (∀ i ∈ tSl tg, i ∈ vs) && (decide (vs.length = (ownP c.N vs).length) && (chk (blkCt c scope vs) false elt elt' && (!isOwn elt && chkIf (blkCt c scope vs) ifs ifs'))))))
    | _ => false
  | .pop0 a k, e => (!t || plainT e) && match e with
    | .Call (.Attribute a' m ap) [k'] [] cp => decide (m = "pop") && (chk c false a a' && (!isOwn a && (chk c false k k' && (!isOwn k && (noStar k' && (noCall0 a' && (ap.endLine == cp.line)))))))
    | _ => false
  | .new a, e => (!t || plainT e) && (chk c false a e && isFresh a)
  | .isi a k, e => (!t || plainT e) && match e with
    | .Call (.Name x _) es' [] _ => (match es' with
      | [a', .Name y _] => decide (x = "isinstance") && (okGl c x && (decide (x ∈ c.free) && (chk c false a a' && (noStar a' && (decide (y = tyName k) && (okGl c y && decide (y ∈ c.free)))))))
      | _ => false)
    | _ => false
  | .gen k vs elt tg src ifs, e => (!t || plainT e) && match e with
    | .Call (.Name x _) [.GeneratorExp elt' [⟨tg', it', ifs', 0⟩] scope _] [] _ =>
      decide (x = anName k) && (okGl c x && (decide (x ∈ c.free) && (decide (1 ≤ c.sl) && (genC c.N c.sc scope (ownP c.N vs) && (noList it' && (chkSrc c true src it' tg' && (chkT (genCt c scope vs) tg tg' && (decide (∀ i ∈ tSl tg, i ∈ vs) && (decide (vs.length = (ownP c.N vs).length) &&
        (chk (genCt c scope vs) false elt elt' && (!isOwn elt && chkIf (genCt c scope vs) ifs ifs')))))))))))
    | _ => false
  | .join a b, e => (!t || plainT e) && match e with
    | .Call (.Attribute a' m ap) [k'] [] cp => decide (m = "join") && (chk c false a a' && (!isOwn a && (chk c false b k' && (noStar k' && (noCall0 a' && (ap.endLine == cp.line))))))
    | _ => false
  | .lstr a b, e => (!t || plainT e) && match e with
    | .Call (.Attribute a' m ap) [k'] [] cp => decide (m = "lstrip") && (chk c false a a' && (!isOwn a && (chk c false b k' && (!isOwn b && (noStar k' && (noCall0 a' && (ap.endLine == cp.line)))))))
    | _ => false
  | .dget kv a, e => (!t || plainT e) && match e with
    | .Call (.Attribute (.Dict ks vs _) m ap) [k'] [] cp => decide (m = "get") && (chkKV kv ks vs && (decide ((kv.map (·.1)).Nodup) && (decide (kv ≠ []) && (decide (kv.length ≤ 15) && (chk c false a k' && (!isOwn a && (noStar k' && (ap.endLine == cp.line))))))))
    | _ => false
  | .popl a, e => (!t || plainT e) && match e with
    | .Call (.Attribute a' m ap) [] [] cp => decide (m = "pop") && (chk c false a a' && (!isOwn a && (noCall0 a' && (ap.endLine == cp.line))))
    | _ => false
  | .isi2 a k l, e => (!t || plainT e) && match e with
    | .Call (.Name x _) es' [] _ => (match es' with
      | [a', .Tuple ts _ _] => (match ts with
        | [.Name y _, .Name z _] => decide (x = "isinstance") && (okGl c x && (decide (x ∈ c.free) && (chk c false a a' && (noStar a' && (decide (y = tyName k) && (okGl c y && (decide (y ∈ c.free) && (decide (z = tyName l) && (okGl c z && decide (z ∈ c.free))))))))))
        | _ => false)
      | _ => false)
    | _ => false
/-- s: no list of one's own as it is -/
def chkEs (c : Ct) (t s : Bool) : Es → List Expr → Bool
  | .nil, es => es.isEmpty
  | .cons a r, es => match es with
    | e :: q => noStar e && (chk c t a e && ((!s || !isOwn a) && chkEs c t s r q))
    | [] => false
def chkO (c : Ct) (t : Bool) : Oe → Option Expr → Bool
  | .no, o => o.isNone
  | .so a, o => match o with
    | some e => chk c t a e
    | none => false
def chkIf (c : Ct) : Oe → List Expr → Bool
  | .no, o => o.isEmpty
  | .so a, o => match o with
    | [e] => chk c true a e && !isOwn a
    | _ => false
/-- w: one's own list may be walked; the target is told for zip, enumerate -/
def chkSrc (c : Ct) (w : Bool) : Src → Expr → Expr → Bool
  | .of a, e, _ => chk c false a e && ((w || !isOwn a) && noSet e)
  | .rg1 a, e, _ => match e with
    | .Call (.Name x _) es [] _ => (match es with
      | [a'] => decide (x = "range") && (okGl c x && (decide (x ∈ c.free) && (chk c false a a' && noStar a')))
      | _ => false)
    | _ => false
  | .rg2 a b, e, _ => match e with
    | .Call (.Name x _) es [] _ => (match es with
      | [a', b'] => decide (x = "range") && (okGl c x && (decide (x ∈ c.free) && (chk c false a a' && (chk c false b b' && (noStar a' && noStar b')))))
      | _ => false)
    | _ => false
  | .enum a, e, tg => match e with
    | .Call (.Name x _) es [] _ => (match es, tg with
      | [a'], .Tuple .. => decide (x = "enumerate") && (okGl c x && (decide (x ∈ c.free) && (chk c false a a' && (noStar a' && (w || !isOwn a)))))
      | _, _ => false)
    | _ => false
  | .zip a b, e, tg => match e with
    | .Call (.Name x _) es [] _ => (match es, tg with
      | [a', b'], .Tuple .. => decide (x = "zip") && (okGl c x && (decide (x ∈ c.free) && (chk c false a a' && (chk c false b b' && (noStar a' && (noStar b' && (w || (!isOwn a && !isOwn b))))))))
      | _, _ => false)
    | _ => false
end
end MP

/-! MP: what is checked is sound: expressions. -/
namespace MP
open PySem
open PySem.Spec
open PyProof.Rows
open L2

/-! ### side conditions -/
theorem starEach_ok {e : Expr} {es : List Expr} {env : PySem.Env} (h : noStar e = true) : starEach (e :: es) env = (false, eval e env) :: starEach es env := by
  cases e <;> first | rfl | (simp [noStar] at h)
theorem assignEach_ok {e : Expr} {es : List Expr} {env : PySem.Env} (h : noStar e = true) : assignEach (e :: es) env = (false, assign e env) :: assignEach es env := by
  cases e <;> first | rfl | (simp [noStar] at h)
theorem isTrue_ok {e : Expr} {env : PySem.Env} (h : plainT e = true) : ∀ whole, isTrue e env whole = (do let v ← whole; standAt e.pos; holding [v] (truthy v)) := by
  intro whole
  cases e with
  | UnaryOp o a p => cases o <;> first | rfl | (simp [plainT] at h)
  | BoolOp => simp [plainT] at h
  | IfExp => simp [plainT] at h
  | Compare => simp [plainT] at h
  | _ => rfl
theorem plainIx_ok {b : Expr} (h : noSlice b = true) : PlainIx b := by
  intro o i
  cases b <;> first | rfl | (simp [noSlice] at h)
theorem attrBase_ok {e : Expr} {f : Str} {env : PySem.Env} (h : noCall0 e = true) : attributeBase e f env (eval e env) = eval e env := by
  unfold attributeBase
  cases e with
  | Call g as ks p =>
    cases g with
    | Name x q =>
      cases as with
      | nil =>
        cases ks with
        | nil => simp [noCall0] at h
        | cons => rfl
      | cons => rfl
    | _ => rfl
  | _ => rfl
theorem folded_ok {e : Expr} {env : PySem.Env} (h : noSet e = true) : ∀ x, foldedSetIterable e env x = pure x := by
  intro x
  cases e <;> first | rfl | (simp [noSet] at h)
def noStars : List Expr → Bool
  | [] => true
  | e :: r => noStar e && noStars r
theorem backTo_ok {env : PySem.Env} {pos : Pos} : ∀ {es : List Expr}, noStars es = true → (backTo pos (starEach es env)).any (·.1) = false
  | [], _ => rfl
  | [e], h => by
    simp only [noStars, Bool.and_eq_true] at h
    rw [starEach_ok h.1]; rfl
  | e :: f :: r, h => by
    have h' := h
    simp only [noStars, Bool.and_eq_true] at h
    rw [starEach_ok h.1]
    have ih := backTo_ok (env := env) (pos := pos) (es := f :: r) (by simp [noStars, h.2.1, h.2.2])
    unfold backTo at ih ⊢
    simp only [List.any_map, List.any_cons] at ih ⊢
    first
      | exact ih
      | simpa using ih

/-! ### what a body knows of its surroundings -/
/-- the state of the heap alone -/
structure CR (K : PySem.W.Frag) (T : Addr → Prop) (W : Addr → Prop) (ρ : List Addr) (h : Hh) (H : Hp) : Prop where
  hl : ρ.length = h.length
  nd : ρ.Nodup
  obj : ∀ (n : Nat) (o : MO) (a : Addr), h[n]? = some o → ρ[n]? = some a → ORep K W ρ H a o
  rw : ∀ a ∈ ρ, W a
  wtr : ∀ a, W a → H a ≠ none
  tb : ∀ P, T P → IsTb H P
structure ExtC (K : PySem.W.Frag) (W : Addr → Prop) (ρ : List Addr) (H : Hp) (W' : Addr → Prop) (ρ' : List Addr) (H' : Hp) : Prop where
  x : Ext K W ρ H W' ρ' H'
  wm : ∀ a, W a → W' a
  wn : ∀ a, W' a → W a ∨ H a = none
/-- what a call of the f-th def promises -/
def spRun (K : PySem.W.Frag) (Θ : Addr → Prop) (C : Cfg) (f : Str) (n : Nat) : Sp := fun vs H Q _ => ∃ W ρ ds h r h', CR K Θ W ρ h H ∧ Reps K W ρ H vs ds ∧ ds.length = n ∧ C.call f ds h = some (r, h') ∧
  ∀ v H' W' ρ', CR K Θ W' ρ' h' H' → ExtC K W ρ H W' ρ' H' → Rep K W' ρ' H' v r → Q v H'
def FnCall (X : Cx) (Θ : Addr → Prop) (C : Cfg) (f x : Str) (n sl : Nat) : Prop := ∃ k addr fd ps, FnOk X.prog X.w X.K X.mg X.base CX0 k addr fd ps (spRun X.K Θ C f n) ∧ Room (k + 4 * sl) X.A ∧ X.mg x = some (.ref addr) ∧
  PySem.W.keepIn X.K (.ref addr) = true ∧ Binds X.K fd ps []
structure XOk (Θ : Addr → Prop) (c : Ct) (C : Cfg) (X : Cx) : Prop where
  hN : X.N = c.N
  nd : c.N.Nodup
  sc : X.env.scope = c.sc
  calm : X.calm = true
  un : X.A.units + 64 < cLine
  free : ∀ x ∈ c.free, X.mg x = none
  bf : ∀ q ∈ c.bf, X.mg q.1 = some (.builtin q.2)
  glob : ∀ q ∈ c.globs, ∃ u v, X.mg q.1 = some u ∧ RelV v u ∧ ∀ W ρ H, Rep X.K W ρ H v q.2
  st : ∀ x ∈ c.st, Loc X.env.scope x ∧ (X.fn x = true ∨ X.env.scope.names.lookup x = some .local)
  fn : ∀ (f : Str) (x : Str) (n : Nat), fnAt c.fns f = some (x, n) → FnCall X Θ C f x n c.sl
  rm : Room (4 * c.sl) X.A
  bm : ∃ P, X.base.BuiltinsAt X.mg P
/-- the reading and the running context -/
structure BK (Θ : Addr → Prop) (B : Bx) (X : Cx) : Prop where
  K : B.K = X.K
  base : B.base = X.base
  T : ∀ P, Θ P → ∃ c, B.kc c P
  code : ∃ c P, X.env.code = .ref c ∧ B.kc c P

/-! ### readings -/
section
variable (C : Cfg) (B : Bx)
def PostW (W : Addr → Prop) (ρ : List Addr) (H : Hp) (env : Env) (σ : L2.St) (h : Hh) (d : D) (Q : VK) : Prop :=
  ∀ v H' W' ρ', SR B W' ρ' env h σ H' → Ext B.K W ρ H W' ρ' H' → WRep B.K W' ρ' H' v d → Q v H'
def PostB (W : Addr → Prop) (ρ : List Addr) (H : Hp) (env : Env) (σ : L2.St) (h : Hh) (b : Bool) (Q : Bool → Hp → Prop) : Prop :=
  ∀ H' W' ρ', SR B W' ρ' env h σ H' → Ext B.K W ρ H W' ρ' H' → Q b H'
def tEv (m : E) : TE := fun σ H Q => ∃ W ρ env h r h', SR B W ρ env h σ H ∧ evE C m env h = some (r, h') ∧ Post B W ρ H env σ h' r Q
def tEvW (m : E) : TE := fun σ H Q => ∃ W ρ env h r h', SR B W ρ env h σ H ∧ evE C m env h = some (r, h') ∧ PostW B W ρ H env σ h' r Q
def tTe (m : E) : TT := fun σ H Q => ∃ W ρ env h r h', SR B W ρ env h σ H ∧ evE C m env h = some (.bl r, h') ∧ PostB B W ρ H env σ h' r Q
def tEvs (es : Es) : TA := fun σ H Q => ∃ W ρ env h r h', SR B W ρ env h σ H ∧ evEs C es env h = some (r, h') ∧
  ∀ vs H' W' ρ', SR B W' ρ' env h' σ H' → Ext B.K W ρ H W' ρ' H' → Reps B.K W' ρ' H' vs r → Q vs H'
def tEvsW (es : Es) : TA := fun σ H Q => ∃ W ρ env h r h', SR B W ρ env h σ H ∧ evEs C es env h = some (r, h') ∧
  ∀ vs H' W' ρ', SR B W' ρ' env h' σ H' → Ext B.K W ρ H W' ρ' H' → WReps B.K W' ρ' H' vs r → Q vs H'
def tEvO (m : Oe) : TO := fun σ H Q => ∃ W ρ env h r h', SR B W ρ env h σ H ∧ evO C m env h = some (r, h') ∧
  ∀ H' W' ρ', SR B W' ρ' env h' σ H' → Ext B.K W ρ H W' ρ' H' → Q r H'
end
theorem _root_.L2.PE.mono {X : Cx} {e : Expr} {t t' : TE} (h : PE X e t) (m : ∀ σ H Q, t' σ H Q → t σ H Q) : PE X e t' := ⟨fun pins s σ H Q I q => h.run pins s σ H Q I (m σ H Q q)⟩
theorem _root_.L2.PT.mono {X : Cx} {e : Expr} {t t' : TT} (h : PT X e t) (m : ∀ σ H Q, t' σ H Q → t σ H Q) : PT X e t' := ⟨fun pins s σ H Q I q => h.run pins s σ H Q I (m σ H Q q)⟩
theorem _root_.L2.PA.mono {X : Cx} {e : List Expr} {t t' : TA} (h : PA X e t) (m : ∀ σ H Q, t' σ H Q → t σ H Q) : PA X e t' := ⟨fun pos pins s σ H Q I q => h.run pos pins s σ H Q I (m σ H Q q)⟩
section
variable {c : Ct} {Θ : Addr → Prop} {C : Cfg} {B : Bx} {X : Cx} {pos : Pos}
theorem weak {e : Expr} {m : E} (h : PE X e (tEv C B m)) : PE X e (tEvW C B m) :=
  h.mono fun σ H Q ⟨W, ρ, env, hh, r, h', S, e, p⟩ => ⟨W, ρ, env, hh, r, h', S, e, fun v H' W' ρ' S' x q => p v H' W' ρ' S' x (.inl q)⟩
/-- a value that is a bool, as a test -/
theorem tst {e : Expr} {m : E} (h : PE X e (tEv C B m)) (he : plainT e = true) : PT X e (tTe C B m) :=
  (pt_val h (isTrue_ok he)).mono fun σ H Q ⟨W, ρ, env, hh, r, h', S, e, p⟩ => ⟨W, ρ, env, hh, .bl r, h', S, e, fun v H' W' ρ' S' x q => by
    cases q
    exact ⟨r, rfl, p H' W' ρ' S' x⟩⟩
theorem nameOk {x : Str} (h : plainName x = true) : (x == ("__debug__" : Str)) = false ∧ (x == ("__classdict__" : Str)) = false ∧ x ≠ "__name__" := by
  simp only [plainName, Bool.and_eq_true, Bool.not_eq_true'] at h
  exact ⟨h.1.1, h.1.2, fun e => by rw [e] at h; exact absurd h.2 (by decide)⟩
theorem visOk {sc : Scope} {x : Str} (h : visB sc x = true) : Vis sc x := by
  unfold visB at h
  unfold Vis
  split at h <;> first | (rename_i e; rw [e]; simp) | cases h
theorem glOk (hx : XOk Θ c C X) {x : Str} (h : okGl c x = true) : Gl X x ∧ (x == ("__debug__" : Str)) = false ∧ x ≠ "__name__" := by
  unfold okGl at h
  rw [Bool.and_eq_true] at h
  obtain ⟨h1, _, h3⟩ := nameOk h.2
  exact ⟨by show X.env.scope.names.lookup x = _; rw [hx.sc]; exact of_decide_eq_true h.1, h1, h3⟩
theorem s_name (hx : XOk Θ c C X) {i : Nat} {x : Str} (h : okVar c i x = true) : PE X (.Name x pos) (tVar i) := by
  simp only [okVar, Bool.and_eq_true, decide_eq_true_eq] at h
  obtain ⟨h1, h2, _⟩ := nameOk h.2.2
  exact pe_var (by rw [hx.hN]; exact h.1) (by rw [hx.sc]; exact visOk h.2.1) h1 h2
theorem s_var (hx : XOk Θ c C X) {i : Nat} {x : Str} (h : okVar c i x = true) : PE X (.Name x pos) (tEv C B (.var i)) := by
  refine (s_name hx h).mono fun σ H Q ⟨W, ρ, env, hh, r, h', S, e, p⟩ => ?_
  unfold evE at e
  split at e
  · rename_i d hd
    cases e
    obtain ⟨v, q1, q2⟩ := S.val i r hd
    exact ⟨v, q1, p.here S q2⟩
  · cases e
theorem s_own (hx : XOk Θ c C X) {i : Nat} {x : Str} (h : okVar c i x = true) : PE X (.Name x pos) (tEvW C B (.own i)) := by
  refine (s_name hx h).mono fun σ H Q ⟨W, ρ, env, hh, r, h', S, e, p⟩ => ?_
  unfold evE at e
  split at e
  · rename_i l hd
    cases e
    obtain ⟨a, vs, q1, q2, q3, q4, q5⟩ := S.ownAt hd
    exact ⟨_, q1, p _ _ _ _ S .refl (.inr ⟨a, vs, l, rfl, rfl, q2, q5, q3⟩)⟩
  · cases e
theorem s_gl (hx : XOk Θ c C X) (hK : BK Θ B X) {x : Str} {d : D} (h : okGl c x = true) (h2 : (x, d) ∈ c.globs) : PE X (.Name x pos) (tEv C B (.gl x d)) := by
  obtain ⟨g1, g2, g3⟩ := glOk hx h
  obtain ⟨u, v, q1, q2, q3⟩ := hx.glob _ h2
  refine (pe_glob g1 q1 q2 g2).mono fun σ H Q ⟨W, ρ, env, hh, r, h', S, e, p⟩ => ?_
  unfold evE at e
  cases e
  exact p.here S (hK.K ▸ q3 W ρ H)
theorem s_lit {k : Const} {d : D} {j : Nat} (h : (match k with
      | .none => decide (d = .non)
      | .bool b => decide (d = .bl b)
      | .int i => decide (d = .int i)
      | .str s => decide (d = .str s.cps.toList)
      | _ => false) = true) : PE X (.Constant k j pos) (tEv C B (.lit d)) := by
  cases k with
  | none =>
    obtain rfl := of_decide_eq_true h
    refine pe_non.mono fun σ H Q ⟨W, ρ, env, hh, r, h', S, e, p⟩ => ?_
    unfold evE at e; cases e
    exact p.here S .non
  | bool b =>
    obtain rfl := of_decide_eq_true h
    refine pe_bl.mono fun σ H Q ⟨W, ρ, env, hh, r, h', S, e, p⟩ => ?_
    unfold evE at e; cases e
    exact p.here S (.bl b)
  | int b =>
    obtain rfl := of_decide_eq_true h
    refine pe_int.mono fun σ H Q ⟨W, ρ, env, hh, r, h', S, e, p⟩ => ?_
    unfold evE at e; cases e
    exact p.here S (.int b)
  | str b =>
    obtain rfl := of_decide_eq_true h
    refine pe_str.mono fun σ H Q ⟨W, ρ, env, hh, r, h', S, e, p⟩ => ?_
    unfold evE at e; cases e
    exact p.here S (.str b)
  | _ => cases h
theorem s_tup {es : Es} {es' : List Expr} {k : Nat} (h : PA X es' (tEvs C B es)) : PE X (.Tuple es' k pos) (tEv C B (.tup es)) := by
  refine (pe_tup h).mono fun σ H Q ⟨W, ρ, env, hh, r, h', S, e, p⟩ => ?_
  unfold evE at e
  obtain ⟨q, e1, e⟩ := Option.bind_eq_some_iff.mp e
  split at e
  · rename_i hl
    cases e
    refine ⟨W, ρ, env, hh, q.1, q.2, S, e1, fun vs H' W' ρ' S' x rs => ⟨by rw [rs.len]; exact most_line hl, (p.ext x).tup S' rs⟩⟩
  · cases e
def tEvF (C : Cfg) (B : Bx) (m : E) : TE := fun σ H Q => ∃ W ρ env h l h', SR B W ρ env h σ H ∧ evE C m env h = some (.lst l, h') ∧ PostF B W ρ H env σ h' l Q
def tEvX (C : Cfg) (B : Bx) (m : E) : TE := fun σ H Q => ∃ W ρ env h r h', SR B W ρ env h σ H ∧ evE C m env h = some (r, h') ∧ PostX B W ρ H env σ h' r Q
theorem x_s {e : Expr} {m : E} (h : PE X e (tEvX C B m)) : PE X e (tEv C B m) := h.mono fun σ H Q ⟨W, ρ, env, hh, r, h', S, e, p⟩ => ⟨W, ρ, env, hh, r, h', S, e, .inl p⟩
theorem x_f {e : Expr} {m : E} (h : PE X e (tEvX C B m)) : PE X e (tEvF C B m) := h.mono fun σ H Q ⟨W, ρ, env, hh, l, h', S, e, p⟩ => ⟨W, ρ, env, hh, .lst l, h', S, e, .inr ⟨l, rfl, p⟩⟩
theorem PostX.ext {W W' : Addr → Prop} {ρ ρ' : List Addr} {H H' : Hp} {env : Env} {σ : L2.St} {h : Hh} {d : D} {Q : VK} (x : Ext B.K W ρ H W' ρ' H') (p : PostX B W ρ H env σ h d Q) : PostX B W' ρ' H' env σ h d Q :=
  p.imp (fun p => p.ext x) fun ⟨l, e, p⟩ => ⟨l, e, p.ext x⟩
theorem Post.f {W : Addr → Prop} {ρ : List Addr} {H : Hp} {env : Env} {σ : L2.St} {h : Hh} {l : List D} {Q : VK} (p : Post B W ρ H env σ h (.lst l) Q) : PostF B W ρ H env σ h l Q :=
  fun a vs H' W' ρ' S x ha rs => p _ _ W' ρ' (S.laid ha) (x.trans (.laid ha)) (S.lst ha rs)
theorem strong {e : Expr} {m : E} (h : PE X e (tEvF C B m)) (hl : ∀ s h r, evE C m s h = some r → ∃ l, r.1 = .lst l) : PE X e (tEv C B m) :=
  h.mono fun σ H Q ⟨W, ρ, env, hh, r, h', S, e, p⟩ => by
    obtain ⟨l, e2⟩ := hl _ _ _ e
    simp only at e2
    subst e2
    exact ⟨W, ρ, env, hh, l, h', S, e, p.f⟩
theorem f_lst {es : Es} {es' : List Expr} (h : PA X es' (tEvs C B es)) : PE X (.List es' pos) (tEvF C B (.lst es)) := by
  refine (pe_lst h).mono fun σ H Q ⟨W, ρ, env, hh, r, h', S, e, p⟩ => ?_
  unfold evE at e
  obtain ⟨q, e1, e⟩ := Option.bind_eq_some_iff.mp e
  split at e
  · rename_i hl
    cases e
    exact ⟨W, ρ, env, hh, q.1, q.2, S, e1, fun vs H' W' ρ' S' x rs => ⟨by rw [rs.len]; exact most_line hl, fun a ha => p a vs H' W' ρ' S' x ha rs⟩⟩
  · cases e
theorem isl_lst {es : Es} {s : Env} {h : Hh} {r : D × Hh} (e : evE C (.lst es) s h = some r) : ∃ l, r.1 = .lst l := by
  unfold evE at e
  obtain ⟨q, e1, e⟩ := Option.bind_eq_some_iff.mp e
  split at e
  · cases e; exact ⟨_, rfl⟩
  · cases e
theorem PostW.ext {W W' : Addr → Prop} {ρ ρ' : List Addr} {H H' : Hp} {env : Env} {σ : L2.St} {h : Hh} {d : D} {Q : VK} (x : Ext B.K W ρ H W' ρ' H') (p : PostW B W ρ H env σ h d Q) : PostW B W' ρ' H' env σ h d Q :=
  fun v H2 W2 ρ2 s x2 r => p v H2 W2 ρ2 s (x.trans x2) r
theorem x_bin (hK : BK Θ B X) {o : Operator} {a b : E} {a' b' : Expr} (ha : PE X a' (tEvW C B a)) (hb : PE X b' (tEvW C B b)) : PE X (.BinOp a' o b' pos) (tEvX C B (.bin o a b)) := by
  refine (pe_op (op_bin (B := B) hK.K o) ha hb).mono fun σ H Q ⟨W, ρ, env, hh, r, h', S, e, p⟩ => ?_
  unfold evE at e
  obtain ⟨q1, e1, e⟩ := Option.bind_eq_some_iff.mp e
  obtain ⟨q2, e2, e⟩ := Option.bind_eq_some_iff.mp e
  obtain ⟨r2, e3, e⟩ := Option.map_eq_some_iff.mp e
  cases e
  refine ⟨W, ρ, env, hh, q1.1, q1.2, S, e1, fun x H1 W1 ρ1 S1 X1 R1 => ⟨W1, ρ1, env, q1.2, q2.1, q2.2, S1, e2, fun y H2 W2 ρ2 S2 X2 R2 => ?_⟩⟩
  exact ⟨W2, ρ2, env, q2.2, σ, q1.1, q2.1, r, S2, R1.ext X2, R2, e3, p.ext (X1.trans X2)⟩
theorem s_cmp (hx : XOk Θ c C X) (hK : BK Θ B X) {o : CmpOp} {a b : E} {a' b' : Expr} (ha : PE X a' (tEvW C B a)) (hb : PE X b' (tEvW C B b)) (hm : behindInMarks o b' = false) : PE X (.Compare a' [o] [b'] pos) (tEv C B (.cmp o a b)) := by
  refine (pe_cmpR (op_cmp (B := B) hK.K hx.un o) ha hb hm).mono fun σ H Q ⟨W, ρ, env, hh, r, h', S, e, p⟩ => ?_
  unfold evE at e
  obtain ⟨q1, e1, e⟩ := Option.bind_eq_some_iff.mp e
  obtain ⟨q2, e2, e⟩ := Option.bind_eq_some_iff.mp e
  obtain ⟨r2, e3, e⟩ := Option.map_eq_some_iff.mp e
  cases e
  refine ⟨W, ρ, env, hh, q1.1, q1.2, S, e1, fun x H1 W1 ρ1 S1 X1 R1 => ⟨W1, ρ1, env, q1.2, q2.1, q2.2, S1, e2, fun y H2 W2 ρ2 S2 X2 R2 => ?_⟩⟩
  exact ⟨W2, ρ2, env, q2.2, σ, q1.1, q2.1, r2, S2, R1.ext X2, R2, e3, p.ext (X1.trans X2)⟩
theorem t_cmp (hx : XOk Θ c C X) (hK : BK Θ B X) {o : CmpOp} {a b : E} {a' b' : Expr} (ha : PE X a' (tEvW C B a)) (hb : PE X b' (tEvW C B b)) (hm : behindInMarks o b' = false) : PT X (.Compare a' [o] [b'] pos) (tTe C B (.cmp o a b)) := by
  refine (pt_cmpR (op_cmp (B := B) hK.K hx.un o) ha hb hm).mono fun σ H Q ⟨W, ρ, env, hh, r, h', S, e, p⟩ => ?_
  unfold evE at e
  obtain ⟨q1, e1, e⟩ := Option.bind_eq_some_iff.mp e
  obtain ⟨q2, e2, e⟩ := Option.bind_eq_some_iff.mp e
  obtain ⟨r2, e3, e⟩ := Option.map_eq_some_iff.mp e
  cases e
  refine ⟨W, ρ, env, hh, q1.1, q1.2, S, e1, fun x H1 W1 ρ1 S1 X1 R1 => ⟨W1, ρ1, env, q1.2, q2.1, q2.2, S1, e2, fun y H2 W2 ρ2 S2 X2 R2 => ?_⟩⟩
  refine ⟨W2, ρ2, env, q2.2, σ, q1.1, q2.1, r, S2, R1.ext X2, R2, e3, fun v H3 W3 ρ3 S3 X3 R3 => ?_⟩
  cases R3
  exact ⟨r, rfl, p H3 W3 ρ3 S3 ((X1.trans X2).trans X3)⟩
theorem s_neg {a : E} {a' : Expr} (ha : PE X a' (tEvW C B a)) : PE X (.UnaryOp .USub a' pos) (tEv C B (.neg a)) := by
  refine (pe_un un_neg ha).mono fun σ H Q ⟨W, ρ, env, hh, r, h', S, e, p⟩ => ?_
  unfold evE at e
  obtain ⟨q1, e1, e⟩ := Option.bind_eq_some_iff.mp e
  obtain ⟨i, e3, e⟩ := Option.map_eq_some_iff.mp e
  cases e
  refine ⟨W, ρ, env, hh, q1.1, q1.2, S, e1, fun x H1 W1 ρ1 S1 X1 R1 => ?_⟩
  have e4 : q1.1 = .int i := by
    cases q : q1.1 <;> rw [q] at e3 <;> first | (cases e3; done) | skip
    exact congrArg _ (Option.some.inj e3)
  rw [e4] at R1
  exact ⟨i, wInt R1, (p.ext X1).here S1 (.int _)⟩
theorem s_idx (hK : BK Θ B X) {a b : E} {a' b' : Expr} (ha : PE X a' (tEvW C B a)) (hb : PE X b' (tEvW C B b)) (hs : noSlice b' = true) : PE X (.Subscript a' b' pos) (tEv C B (.idx a b)) := by
  refine (pe_ix (ix_all (B := B) hK.K) ha hb (plainIx_ok hs)).mono fun σ H Q ⟨W, ρ, env, hh, r, h', S, e, p⟩ => ?_
  unfold evE at e
  obtain ⟨q1, e1, e⟩ := Option.bind_eq_some_iff.mp e
  obtain ⟨q2, e2, e⟩ := Option.bind_eq_some_iff.mp e
  obtain ⟨r2, e3, e⟩ := Option.map_eq_some_iff.mp e
  cases e
  refine ⟨W, ρ, env, hh, q1.1, q1.2, S, e1, fun x H1 W1 ρ1 S1 X1 R1 => ⟨W1, ρ1, env, q1.2, q2.1, q2.2, S1, e2, fun y H2 W2 ρ2 S2 X2 R2 => ?_⟩⟩
  exact ⟨W2, ρ2, env, q2.2, σ, q1.1, q2.1, r, S2, R1.ext X2, R2, e3, p.ext (X1.trans X2)⟩
theorem isI_eq {d : D} {i : Int} (h : isI d = some i) : d = .int i := by
  cases d <;> first | (cases h; done) | skip
  exact congrArg _ (Option.some.inj h)
theorem isB_eq {d : D} {i : Bool} (h : isB d = some i) : d = .bl i := by
  cases d <;> first | (cases h; done) | skip
  exact congrArg _ (Option.some.inj h)
theorem o_no : PO X none (tEvO C B .no) := ⟨fun pins s σ H Q I ⟨W, ρ, env, hh, r, h', S, e, p⟩ => by
  unfold evO at e
  cases e
  exact po_none.run pins s σ H Q I (p H W ρ S .refl)⟩
theorem o_so {a : E} {a' : Expr} (ha : PE X a' (tEvW C B a)) : PO X (some a') (tEvO C B (.so a)) := ⟨fun pins s σ H Q I ⟨W, ρ, env, hh, r, h', S, e, p⟩ => by
  unfold evO at e
  obtain ⟨q1, e1, e⟩ := Option.bind_eq_some_iff.mp e
  obtain ⟨i, e3, e⟩ := Option.map_eq_some_iff.mp e
  cases e
  refine (po_some ha).run pins s σ H Q I ⟨W, ρ, env, hh, q1.1, q1.2, S, e1, fun x H1 W1 ρ1 S1 X1 R1 => ?_⟩
  rw [isI_eq e3] at R1
  exact ⟨i, wInt R1, p H1 W1 ρ1 S1 X1⟩⟩
theorem x_slc (hK : BK Θ B X) {a : E} {lo hi : Oe} {a' : Expr} {lo' hi' : Option Expr} {p2 : Pos} (ha : PE X a' (tEvW C B a)) (hl : PO X lo' (tEvO C B lo)) (hh : PO X hi' (tEvO C B hi)) :
    PE X (.Subscript a' (.Slice lo' hi' none p2) pos) (tEvX C B (.slc a lo hi)) := by
  refine (pe_slice (sl_all (B := B) hK.K) ha hl hh).mono fun σ H Q ⟨W, ρ, env, h0, r, h', S, e, p⟩ => ?_
  unfold evE at e
  obtain ⟨q1, e1, e⟩ := Option.bind_eq_some_iff.mp e
  obtain ⟨q2, e2, e⟩ := Option.bind_eq_some_iff.mp e
  obtain ⟨q3, e3, e⟩ := Option.bind_eq_some_iff.mp e
  obtain ⟨r2, e4, e⟩ := Option.map_eq_some_iff.mp e
  cases e
  refine ⟨W, ρ, env, h0, q1.1, q1.2, S, e1, fun x H1 W1 ρ1 S1 X1 R1 => ⟨W1, ρ1, env, q1.2, q2.1, q2.2, S1, e2, fun H2 W2 ρ2 S2 X2 => ⟨W2, ρ2, env, q2.2, q3.1, q3.2, S2, e3, fun H3 W3 ρ3 S3 X3 => ?_⟩⟩⟩
  exact ⟨W3, ρ3, env, q3.2, σ, q1.1, r, S3, (R1.ext X2).ext X3, e4, p.ext ((X1.trans X2).trans X3)⟩
theorem s_ite {k a b : E} {k' a' b' : Expr} (hk : PT X k' (tTe C B k)) (ha : PE X a' (tEv C B a)) (hb : PE X b' (tEv C B b)) : PE X (.IfExp k' a' b' pos) (tEv C B (.ite k a b)) := by
  refine (pe_ifExp hk ha hb).mono fun σ H Q ⟨W, ρ, env, h0, r, h', S, e, p⟩ => ?_
  unfold evE at e
  obtain ⟨q1, e1, e⟩ := Option.bind_eq_some_iff.mp e
  obtain ⟨x, e2, e⟩ := Option.bind_eq_some_iff.mp e
  have e3 : q1 = (.bl x, q1.2) := by rw [← isB_eq e2]
  rw [e3] at e1
  refine ⟨W, ρ, env, h0, x, q1.2, S, e1, fun H1 W1 ρ1 S1 X1 => ?_⟩
  cases x with
  | true =>
    rw [if_pos rfl]
    exact ⟨W1, ρ1, env, q1.2, r, h', S1, e, p.ext X1⟩
  | false =>
    rw [if_neg (by decide)]
    exact ⟨W1, ρ1, env, q1.2, r, h', S1, e, p.ext X1⟩
theorem t_no {a : E} {a' : Expr} (ha : PT X a' (tTe C B a)) : PT X (.UnaryOp .Not a' pos) (tTe C B (.no a)) := by
  refine (pt_not ha).mono fun σ H Q ⟨W, ρ, env, h0, r, h', S, e, p⟩ => ?_
  unfold evE at e
  obtain ⟨q1, e1, e⟩ := Option.bind_eq_some_iff.mp e
  obtain ⟨x, e2, e⟩ := Option.map_eq_some_iff.mp e
  have e3 : q1 = (.bl x, q1.2) := by rw [← isB_eq e2]
  rw [e3] at e1
  cases e
  exact ⟨W, ρ, env, h0, x, q1.2, S, e1, p⟩
theorem s_no {a : E} {a' : Expr} (ha : PE X a' (tEv C B a)) : PE X (.UnaryOp .Not a' pos) (tEv C B (.no a)) := by
  refine (pe_not ha).mono fun σ H Q ⟨W, ρ, env, h0, r, h', S, e, p⟩ => ?_
  unfold evE at e
  obtain ⟨q1, e1, e⟩ := Option.bind_eq_some_iff.mp e
  obtain ⟨x, e2, e⟩ := Option.map_eq_some_iff.mp e
  have e3 : q1 = (.bl x, q1.2) := by rw [← isB_eq e2]
  rw [e3] at e1
  cases e
  refine ⟨W, ρ, env, h0, .bl x, q1.2, S, e1, fun v H1 W1 ρ1 S1 X1 R1 => ?_⟩
  cases R1
  exact ⟨x, rfl, (p.ext X1).here S1 (.bl _)⟩
theorem t_tru (hK : BK Θ B X) {a : E} {a' : Expr} (ha : PE X a' (tEvW C B a)) (he : plainT a' = true) : PT X a' (tTe C B (.tru a)) := by
  refine (pt_truth ha (isTrue_ok he)).mono fun σ H Q ⟨W, ρ, env, h0, r, h', S, e, p⟩ => ?_
  unfold evE at e
  obtain ⟨q1, e1, e⟩ := Option.bind_eq_some_iff.mp e
  obtain ⟨x, e2, e⟩ := Option.map_eq_some_iff.mp e
  cases e
  refine ⟨W, ρ, env, h0, q1.1, q1.2, S, e1, fun v H1 W1 ρ1 S1 X1 R1 => ⟨r, hK.K ▸ tru_of S1 R1 e2, p H1 W1 ρ1 S1 X1⟩⟩
end

/-! ### and, or -/
section
variable {c : Ct} {Θ : Addr → Prop} {C : Cfg} {B : Bx} {X : Cx} {pos : Pos}
def tEvB (C : Cfg) (B : Bx) (k : Bool) (es : Es) : TE := fun σ H Q => ∃ W ρ env h r h', SR B W ρ env h σ H ∧ evB C k es env h = some (r, h') ∧ Post B W ρ H env σ h' r Q
def tTeB (C : Cfg) (B : Bx) (k : Bool) (es : Es) : TT := fun σ H Q => ∃ W ρ env h r h', SR B W ρ env h σ H ∧ evB C k es env h = some (.bl r, h') ∧ PostB B W ρ H env σ h' r Q
theorem b_one {o : BoolOp} {k : Bool} {a : E} {a' : Expr} (ha : PE X a' (tEv C B a)) : PE X (.BoolOp o [a'] pos) (tEvB C B k (.cons a .nil)) :=
  (pe_one ha).mono fun σ H Q ⟨W, ρ, env, h0, r, h', S, e, p⟩ => ⟨W, ρ, env, h0, r, h', S, by unfold evB at e; exact e, p⟩
theorem b_cons {k : Bool} {a b : E} {r : Es} {a' b' : Expr} {r' : List Expr} (ha : PE X a' (tEv C B a)) (hr : PE X (.BoolOp (opK k) (b' :: r') pos) (tEvB C B k (.cons b r))) :
    PE X (.BoolOp (opK k) (a' :: b' :: r') pos) (tEvB C B k (.cons a (.cons b r))) := by
  have go : ∀ {σ H Q}, tEvB C B k (.cons a (.cons b r)) σ H Q → tEv C B a σ H fun x H1 => ∃ d, x = .bl d ∧ if d = k then tEvB C B k (.cons b r) σ H1 Q else Q (.bl d) H1 := fun {σ H Q} ⟨W, ρ, env, h0, z, h', S, e, p⟩ => by
    unfold evB at e
    obtain ⟨q1, e1, e⟩ := Option.bind_eq_some_iff.mp e
    obtain ⟨x, e2, e⟩ := Option.bind_eq_some_iff.mp e
    have e3 := isB_eq e2
    refine ⟨W, ρ, env, h0, q1.1, q1.2, S, e1, fun v H1 W1 ρ1 S1 X1 R1 => ?_⟩
    rw [e3] at R1
    cases R1
    refine ⟨x, rfl, ?_⟩
    split at e
    · rename_i hc
      rw [if_pos hc]
      exact ⟨W1, ρ1, env, q1.2, z, h', S1, e, p.ext X1⟩
    · rename_i hc
      rw [if_neg hc]
      cases e
      exact (p.ext X1).here S1 (.bl _)
  have mono : ∀ {σ H} {Q Q' : VK}, tEv C B a σ H Q → (∀ v H', Q v H' → Q' v H') → tEv C B a σ H Q' := fun {σ H Q Q'} ⟨W, ρ, env, h0, z, h', S, e, p⟩ f => ⟨W, ρ, env, h0, z, h', S, e, fun v H1 W1 ρ1 S1 X1 R1 => f _ _ (p v H1 W1 ρ1 S1 X1 R1)⟩
  cases k with
  | true =>
    refine (pe_and ha hr).mono fun σ H Q h => mono (go h) fun v H1 ⟨d, e, q⟩ => ⟨d, e, ?_⟩
    cases d with
    | true => exact q
    | false => exact q
  | false =>
    refine (pe_or ha hr).mono fun σ H Q h => mono (go h) fun v H1 ⟨d, e, q⟩ => ⟨d, e, ?_⟩
    cases d with
    | true => exact q
    | false => exact q
theorem tb_one {k : Bool} {a : E} {a' : Expr} (ha : PT X a' (tTe C B a)) : PW X (.BoolOp (opK k) [a'] pos) (tTeB C B k (.cons a .nil)) := by
  have m : ∀ {t t' : TT} {e : Expr}, PW X e t → (∀ σ H Q, t' σ H Q → t σ H Q) → PW X e t' := fun h f => ⟨fun wh pins s σ H Q I q => h.run wh pins s σ H Q I (f σ H Q q)⟩
  cases k with
  | true => exact m (pw_and1 ha) fun σ H Q ⟨W, ρ, env, h0, r, h', S, e, p⟩ => ⟨W, ρ, env, h0, r, h', S, by unfold evB at e; exact e, p⟩
  | false => exact m (pw_or1 ha) fun σ H Q ⟨W, ρ, env, h0, r, h', S, e, p⟩ => ⟨W, ρ, env, h0, r, h', S, by unfold evB at e; exact e, p⟩
theorem PostB.ext {W W' : Addr → Prop} {ρ ρ' : List Addr} {H H' : Hp} {env : Env} {σ : L2.St} {h : Hh} {b : Bool} {Q : Bool → Hp → Prop} (x : Ext B.K W ρ H W' ρ' H') (p : PostB B W ρ H env σ h b Q) : PostB B W' ρ' H' env σ h b Q :=
  fun H2 W2 ρ2 s x2 => p H2 W2 ρ2 s (x.trans x2)
theorem tb_cons {k : Bool} {a b : E} {r : Es} {a' b' : Expr} {r' : List Expr} (ha : PT X a' (tTe C B a)) (hr : PW X (.BoolOp (opK k) (b' :: r') pos) (tTeB C B k (.cons b r))) :
    PW X (.BoolOp (opK k) (a' :: b' :: r') pos) (tTeB C B k (.cons a (.cons b r))) := by
  have m : ∀ {t t' : TT} {e : Expr}, PW X e t → (∀ σ H Q, t' σ H Q → t σ H Q) → PW X e t' := fun h f => ⟨fun wh pins s σ H Q I q => h.run wh pins s σ H Q I (f σ H Q q)⟩
  have go : ∀ {σ H Q}, tTeB C B k (.cons a (.cons b r)) σ H Q → tTe C B a σ H fun d H1 => if d = k then tTeB C B k (.cons b r) σ H1 Q else Q d H1 := fun {σ H Q} ⟨W, ρ, env, h0, z, h', S, e, p⟩ => by
    unfold evB at e
    obtain ⟨q1, e1, e⟩ := Option.bind_eq_some_iff.mp e
    obtain ⟨x, e2, e⟩ := Option.bind_eq_some_iff.mp e
    have e3 : q1 = (.bl x, q1.2) := by rw [← isB_eq e2]
    rw [e3] at e1
    refine ⟨W, ρ, env, h0, x, q1.2, S, e1, fun H1 W1 ρ1 S1 X1 => ?_⟩
    split at e
    · rename_i hc
      rw [if_pos hc]
      exact ⟨W1, ρ1, env, q1.2, z, h', S1, e, p.ext X1⟩
    · rename_i hc
      rw [if_neg hc]
      cases e
      exact p H1 W1 ρ1 S1 X1
  have mono : ∀ {σ H} {Q Q' : Bool → Hp → Prop}, tTe C B a σ H Q → (∀ v H', Q v H' → Q' v H') → tTe C B a σ H Q' := fun {σ H Q Q'} ⟨W, ρ, env, h0, z, h', S, e, p⟩ f => ⟨W, ρ, env, h0, z, h', S, e, fun H1 W1 ρ1 S1 X1 => f _ _ (p H1 W1 ρ1 S1 X1)⟩
  cases k with
  | true =>
    refine m (pw_and ha hr) fun σ H Q h => mono (go h) fun d H1 q => ?_
    cases d with
    | true => exact q
    | false => exact q
  | false =>
    refine m (pw_or ha hr) fun σ H Q h => mono (go h) fun d H1 q => ?_
    cases d with
    | true => exact q
    | false => exact q
theorem s_chain (hx : XOk Θ c C X) (hK : BK Θ B X) {o o2 : CmpOp} {a b d : E} {a' b' d' : Expr} (ha : PE X a' (tEvW C B a)) (hb : PE X b' (tEvW C B b)) (hd : PE X d' (tEvW C B d)) (hm : behindInMarks o2 d' = false) :
    PE X (.Compare a' [o, o2] [b', d'] pos) (tEv C B (.chain o o2 a b d)) := by
  refine (pe_chain (op_cmp (B := B) hK.K hx.un o) (op_cmp (B := B) hK.K hx.un o2) ha hb hd (show behindInMarks o2 d' = false from hm)).mono fun σ H Q ⟨W, ρ, env, hh, r, h', S, e, p⟩ => ?_
  unfold evE at e
  obtain ⟨q1, e1, e⟩ := Option.bind_eq_some_iff.mp e
  obtain ⟨q2, e2, e⟩ := Option.bind_eq_some_iff.mp e
  obtain ⟨r2, e3, e⟩ := Option.bind_eq_some_iff.mp e
  refine ⟨W, ρ, env, hh, q1.1, q1.2, S, e1, fun x H1 W1 ρ1 S1 X1 R1 => ⟨W1, ρ1, env, q1.2, q2.1, q2.2, S1, e2, fun y H2 W2 ρ2 S2 X2 R2 => ?_⟩⟩
  refine ⟨W2, ρ2, env, q2.2, σ, q1.1, q2.1, r2, S2, R1.ext X2, R2, e3, fun v H3 W3 ρ3 S3 X3 R3 => ?_⟩
  cases R3
  refine ⟨r2, rfl, ?_⟩
  cases r2 with
  | true =>
    rw [if_pos rfl]
    obtain ⟨q3, e4, e⟩ := Option.bind_eq_some_iff.mp e
    obtain ⟨r3, e5, e⟩ := Option.map_eq_some_iff.mp e
    cases e
    refine ⟨W3, ρ3, env, q2.2, q3.1, q3.2, S3, e4, fun z H4 W4 ρ4 S4 X4 R4 => ?_⟩
    exact ⟨W4, ρ4, env, q3.2, σ, q2.1, q3.1, r3, S4, (R2.ext X3).ext X4, R4, e5, p.ext (((X1.trans X2).trans X3).trans X4)⟩
  | false =>
    rw [if_neg (by decide)]
    cases e
    exact (p.ext ((X1.trans X2).trans X3)).here S3 (.bl _)
theorem t_chain (hx : XOk Θ c C X) (hK : BK Θ B X) {o o2 : CmpOp} {a b d : E} {a' b' d' : Expr} (ha : PE X a' (tEvW C B a)) (hb : PE X b' (tEvW C B b)) (hd : PE X d' (tEvW C B d)) (hm : behindInMarks o2 d' = false) :
    PT X (.Compare a' [o, o2] [b', d'] pos) (tTe C B (.chain o o2 a b d)) := by
  refine (pt_chain (op_cmp (B := B) hK.K hx.un o) (op_cmp (B := B) hK.K hx.un o2) ha hb hd (show behindInMarks o2 d' = false from hm)).mono fun σ H Q ⟨W, ρ, env, hh, r, h', S, e, p⟩ => ?_
  unfold evE at e
  obtain ⟨q1, e1, e⟩ := Option.bind_eq_some_iff.mp e
  obtain ⟨q2, e2, e⟩ := Option.bind_eq_some_iff.mp e
  obtain ⟨r2, e3, e⟩ := Option.bind_eq_some_iff.mp e
  refine ⟨W, ρ, env, hh, q1.1, q1.2, S, e1, fun x H1 W1 ρ1 S1 X1 R1 => ⟨W1, ρ1, env, q1.2, q2.1, q2.2, S1, e2, fun y H2 W2 ρ2 S2 X2 R2 => ?_⟩⟩
  refine ⟨W2, ρ2, env, q2.2, σ, q1.1, q2.1, r2, S2, R1.ext X2, R2, e3, fun v H3 W3 ρ3 S3 X3 R3 => ?_⟩
  cases R3
  refine ⟨r2, rfl, ?_⟩
  cases r2 with
  | true =>
    rw [if_pos rfl]
    obtain ⟨q3, e4, e⟩ := Option.bind_eq_some_iff.mp e
    obtain ⟨r3, e5, e⟩ := Option.map_eq_some_iff.mp e
    cases e
    refine ⟨W3, ρ3, env, q2.2, q3.1, q3.2, S3, e4, fun z H4 W4 ρ4 S4 X4 R4 => ?_⟩
    refine ⟨W4, ρ4, env, q3.2, σ, q2.1, q3.1, _, S4, (R2.ext X3).ext X4, R4, e5, fun v H5 W5 ρ5 S5 X5 R5 => ?_⟩
    cases R5
    exact ⟨_, rfl, p H5 W5 ρ5 S5 ((((X1.trans X2).trans X3).trans X4).trans X5)⟩
  | false =>
    rw [if_neg (by decide)]
    cases e
    exact ⟨_, rfl, p H3 W3 ρ3 S3 ((X1.trans X2).trans X3)⟩

/-! ### argument lists -/
theorem a_nil : PA X [] (tEvs C B .nil) := pa_nil.mono fun σ H Q ⟨W, ρ, env, h0, r, h', S, e, p⟩ => by
  unfold evEs at e; cases e
  exact p [] H W ρ S .refl .nil
theorem a_cons {a : E} {r : Es} {a' : Expr} {r' : List Expr} (ha : PE X a' (tEv C B a)) (hr : PA X r' (tEvs C B r)) (hs : noStar a' = true) : PA X (a' :: r') (tEvs C B (.cons a r)) :=
  (pa_cons ha hr (starEach_ok hs)).mono fun σ H Q ⟨W, ρ, env, h0, z, h', S, e, p⟩ => by
    unfold evEs at e
    obtain ⟨q1, e1, e⟩ := Option.bind_eq_some_iff.mp e
    obtain ⟨q2, e2, e⟩ := Option.map_eq_some_iff.mp e
    cases e
    exact ⟨W, ρ, env, h0, q1.1, q1.2, S, e1, fun v H1 W1 ρ1 S1 X1 R1 => ⟨W1, ρ1, env, q1.2, q2.1, q2.2, S1, e2, fun vs H2 W2 ρ2 S2 X2 R2 => p _ H2 W2 ρ2 S2 (X1.trans X2) (.cons (R1.ext X2) R2)⟩⟩
theorem aw_nil : PA X [] (tEvsW C B .nil) := pa_nil.mono fun σ H Q ⟨W, ρ, env, h0, r, h', S, e, p⟩ => by
  unfold evEs at e; cases e
  exact p [] H W ρ S .refl .nil
theorem aw_cons {a : E} {r : Es} {a' : Expr} {r' : List Expr} (ha : PE X a' (tEvW C B a)) (hr : PA X r' (tEvsW C B r)) (hs : noStar a' = true) : PA X (a' :: r') (tEvsW C B (.cons a r)) :=
  (pa_cons ha hr (starEach_ok hs)).mono fun σ H Q ⟨W, ρ, env, h0, z, h', S, e, p⟩ => by
    unfold evEs at e
    obtain ⟨q1, e1, e⟩ := Option.bind_eq_some_iff.mp e
    obtain ⟨q2, e2, e⟩ := Option.map_eq_some_iff.mp e
    cases e
    exact ⟨W, ρ, env, h0, q1.1, q1.2, S, e1, fun v H1 W1 ρ1 S1 X1 R1 => ⟨W1, ρ1, env, q1.2, q2.1, q2.2, S1, e2, fun vs H2 W2 ρ2 S2 X2 R2 => p _ H2 W2 ρ2 S2 (X1.trans X2) (.cons (R1.ext X2) R2)⟩⟩

/-! ### calls -/
theorem SR.cr {T : Addr → Prop} {W : Addr → Prop} {ρ : List Addr} {env : Env} {h : Hh} {σ : L2.St} {H : Hp} (s : SR B W ρ env h σ H) (hT : ∀ P, T P → ∃ c, B.kc c P) : CR B.K T W ρ h H := ⟨s.hl, s.nd, s.obj, s.rw, s.wtr, fun P t => let ⟨_, k⟩ := hT P t; (s.kcs _ _ k).2⟩
/-- a code object is no list of the heap -/
theorem SR.cdW {W : Addr → Prop} {ρ : List Addr} {env : Env} {h : Hh} {σ : L2.St} {H : Hp} (s : SR B W ρ env h σ H) : ∀ c P, H c = some (GX.CdO c P) → c ∉ ρ := fun c P e z => by
  obtain ⟨n, hn⟩ := List.getElem?_of_mem z
  obtain ⟨o, ho⟩ : ∃ o, h[n]? = some o := by
    have := (List.getElem?_eq_some_iff.mp hn).1
    rw [s.hl] at this
    exact ⟨_, List.getElem?_eq_getElem this⟩
  have := s.obj n o c ho hn
  cases o with
  | lst l =>
    obtain ⟨vs, q, _⟩ := this
    rw [e] at q
    unfold GX.CdO at q
    cases q
theorem _root_.GX.Kc.ext {K : PySem.W.Frag} {W W' : Addr → Prop} {ρ ρ' : List Addr} {H H' : Hp} {base : Heap} {c P : Addr} (k : GX.Kc base H c P) (nr : ∀ c P, H c = some (GX.CdO c P) → c ∉ ρ) (x : Ext K W ρ H W' ρ' H') : GX.Kc base H' c P :=
  ⟨k.1.imp id fun e => x.fr c _ e cdO_nt (nr _ _ e), x.tb P k.2⟩
theorem SR.after {T : Addr → Prop} {W W' : Addr → Prop} {ρ ρ' : List Addr} {env : Env} {h h' : Hh} {σ : L2.St} {H H' : Hp} (s : SR B W ρ env h σ H) (cr : CR B.K T W' ρ' h' H') (x : ExtC B.K W ρ H W' ρ' H') : SR B W' ρ' env h' σ H' where
  len := s.len
  val := fun i d e => let ⟨v, a, b⟩ := s.val i d e; ⟨v, a, b.ext x.x⟩
  own := fun i l e => by
    obtain ⟨a, vs, q1, q2, q3, q4, q5, q6⟩ := s.own i l e
    refine ⟨a, vs, q1, x.x.fr a _ q2 nt_lst q5, q3.ext x.x, x.wm a q4, fun z => ?_, q6⟩
    rcases x.x.new a z with z | z
    · exact q5 z
    · rw [q2] at z; cases z
  sep := s.sep
  hl := cr.hl
  nd := cr.nd
  obj := cr.obj
  rw := cr.rw
  wtr := cr.wtr
  fr := fun a u e t n => x.x.fr a u (s.fr a u e t n) t fun z => (s.new a z).elim n fun q => by rw [q] at e; cases e
  pre := s.pre.trans x.x.pre
  new := fun a z => (x.x.new a z).elim (s.new a) fun q => .inr (s.none0 q)
  w0 := fun a w => x.wm a (s.w0 a w)
  wn := fun a w => (x.wn a w).elim (s.wn a) fun q => .inr (s.none0 q)
  t0 := fun a e => x.x.tr a (s.t0 a e)
  w1 := s.w1
  kcs := fun c P k => (s.kcs c P k).ext s.cdW x.x
  tb := fun P t => x.x.tb P (s.tb P t)
theorem pass_any {X : Cx} : Passes CX0 X E0 := pass0
theorem okFn_of (hx : XOk Θ c C X) {f : Str} {n : Nat} {x : Str} (h : okFn c f x n = true) : Gl X x ∧ (x == ("__debug__" : Str)) = false ∧ FnCall X Θ C f x n c.sl := by
  unfold okFn at h
  rw [Bool.and_eq_true] at h
  obtain ⟨g1, g2, g3⟩ := glOk hx h.1
  have h2 := h.2
  rw [Bool.and_eq_true] at h2
  exact ⟨g1, g2, hx.fn f x n (of_decide_eq_true h2.2)⟩
theorem es_len {C : Cfg} : ∀ {es : Es} {s : Env} {h : Hh} {r : List D × Hh}, evEs C es s h = some r → r.1.length = esLen es
  | .nil, s, h, r, e => by unfold evEs at e; cases e; rfl
  | .cons a q, s, h, r, e => by
    unfold evEs at e
    obtain ⟨q1, e1, e⟩ := Option.bind_eq_some_iff.mp e
    obtain ⟨q2, e2, e⟩ := Option.map_eq_some_iff.mp e
    cases e
    simp [esLen, es_len e2]
theorem s_call (hx : XOk Θ c C X) (hK : BK Θ B X) {f : Str} {x : Str} {es : Es} {e' : Expr} {es' : List Expr} {p : Pos} (hf : okFn c f x (e' :: es').length = true) (hn : esLen es = (e' :: es').length) (ha : PA X (e' :: es') (tEvs C B es)) (hs : noStars (e' :: es') = true) :
    PE X (.Call (.Name x p) (e' :: es') [] pos) (tEv C B (.call f es)) := by
  obtain ⟨g1, g2, k, addr, fd, ps, F, hr, hm, hk, hb⟩ := okFn_of hx hf
  have hs2 := hs
  simp only [noStars, Bool.and_eq_true] at hs
  refine (pe_call F (hr.mono (by omega)) g1 hm hk hb .nil pass0 ha g2 (starEach_ok hs.1) (backTo_ok hs.2)).mono fun σ H Q ⟨W, ρ, env, h0, r, h', S, e, p⟩ => ?_
  unfold evE at e
  obtain ⟨q1, e1, e⟩ := Option.bind_eq_some_iff.mp e
  refine ⟨W, ρ, env, h0, q1.1, q1.2, S, e1, fun vs H1 W1 ρ1 S1 X1 R1 => ?_⟩
  show spRun X.K Θ C f (e' :: es').length (vs ++ []) H1 Q E0
  rw [List.append_nil]
  refine ⟨W1, ρ1, q1.1, q1.2, r, h', hK.K ▸ S1.cr hK.T, hK.K ▸ R1, by rw [es_len e1, hn], e, fun v H' W' ρ' cr x rr => ?_⟩
  rw [← hK.K] at cr x rr
  exact p v H' W' ρ' (S1.after cr x) (X1.trans x.x) rr
theorem s_call0 (hx : XOk Θ c C X) (hK : BK Θ B X) {f : Str} {x : Str} {p : Pos} (hf : okFn c f x 0 = true) : PE X (.Call (.Name x p) [] [] pos) (tEv C B (.call f .nil)) := by
  obtain ⟨g1, g2, k, addr, fd, ps, F, hr, hm, hk, hb⟩ := okFn_of hx hf
  refine (pe_call0 F (hr.mono (by omega)) g1 hm hk hb .nil pass0 g2).mono fun σ H Q ⟨W, ρ, env, h0, r, h', S, e, p⟩ => ?_
  unfold evE at e
  obtain ⟨q1, e1, e⟩ := Option.bind_eq_some_iff.mp e
  unfold evEs at e1
  cases e1
  show spRun X.K Θ C f 0 ([] ++ []) H Q E0
  refine ⟨W, ρ, [], h0, r, h', hK.K ▸ S.cr hK.T, .nil, rfl, e, fun v H' W' ρ' cr x rr => ?_⟩
  rw [← hK.K] at cr x rr
  exact p v H' W' ρ' (S.after cr x) x.x rr
theorem okPr_of (hx : XOk Θ c C X) {k : Pr} {x : Str} (h : okPr c k x = true) : x = prName k ∧ Gl X x ∧ (x == ("__debug__" : Str)) = false ∧ x ≠ "__name__" ∧ (k = .gcd → X.mg x = some (.builtin "math.gcd")) ∧ (k ≠ .gcd → X.mg x = none) := by
  unfold okPr at h
  simp only
                                                              [Bool.and_eq_true, decide_eq_true_eq]
                                                              at h
  obtain ⟨g1, g2, g3⟩ := glOk hx h.2.1
  refine ⟨h.1, g1, g2, g3, fun e => ?_, fun e => ?_⟩
  · subst e
    exact hx.bf (x, "math.gcd") (of_decide_eq_true h.2.2)
  · have h3 := h.2.2
    cases k <;> first | exact absurd rfl e | exact hx.free x (of_decide_eq_true h3)
theorem x_pr (hx : XOk Θ c C X) (hK : BK Θ B X) {k : Pr} {x : Str} {es : Es} {e : Expr} {es' : List Expr} {p : Pos} (hf : okPr c k x = true) (ha : PA X (e :: es') (tEvsW C B es)) (hs : noStars (e :: es') = true) :
    PE X (.Call (.Name x p) (e :: es') [] pos) (tEvX C B (.pr k es)) := by
  obtain ⟨rfl, g1, g2, g3, m1, m2⟩ := okPr_of hx hf
  simp only [noStars, Bool.and_eq_true] at hs
  have key : PE X (.Call (.Name (prName k) p) (e :: es') [] pos) (tCB (rPr B k) (tEvsW C B es)) := by
    have hc := call_pr (B := B) hK.K hx.calm k
    cases k with
    | gcd => exact pe_callBfun hc g1 (m1 rfl) ha g2 (starEach_ok hs.1) (backTo_ok hs.2)
    | len => exact pe_callB hc g1 (m2 (by decide)) (by decide +kernel) ha g3 g2 (starEach_ok hs.1) (backTo_ok hs.2)
    | abs => exact pe_callB hc g1 (m2 (by decide)) (by decide +kernel) ha g3 g2 (starEach_ok hs.1) (backTo_ok hs.2)
    | max2 => exact pe_callB hc g1 (m2 (by decide)) (by decide +kernel) ha g3 g2 (starEach_ok hs.1) (backTo_ok hs.2)
    | min2 => exact pe_callB hc g1 (m2 (by decide)) (by decide +kernel) ha g3 g2 (starEach_ok hs.1) (backTo_ok hs.2)
    | sum => exact pe_callB hc g1 (m2 (by decide)) (by decide +kernel) ha g3 g2 (starEach_ok hs.1) (backTo_ok hs.2)
    | all => exact pe_callB hc g1 (m2 (by decide)) (by decide +kernel) ha g3 g2 (starEach_ok hs.1) (backTo_ok hs.2)
    | any => exact pe_callB hc g1 (m2 (by decide)) (by decide +kernel) ha g3 g2 (starEach_ok hs.1) (backTo_ok hs.2)
    | tuple => exact pe_callTy hc g1 (m2 (by decide)) (by decide +kernel) ha g3 g2 (starEach_ok hs.1) (backTo_ok hs.2)
    | list => exact pe_callTy hc g1 (m2 (by decide)) (by decide +kernel) ha g3 g2 (starEach_ok hs.1) (backTo_ok hs.2)
    | str => exact pe_callTy hc g1 (m2 (by decide)) (by decide +kernel) ha g3 g2 (starEach_ok hs.1) (backTo_ok hs.2)
    | int => exact pe_callTy hc g1 (m2 (by decide)) (by decide +kernel) ha g3 g2 (starEach_ok hs.1) (backTo_ok hs.2)
  refine key.mono fun σ H Q ⟨W, ρ, env, h0, r, h', S, e, p⟩ => ?_
  unfold evE at e
  obtain ⟨q1, e1, e⟩ := Option.bind_eq_some_iff.mp e
  obtain ⟨r2, e2, e⟩ := Option.map_eq_some_iff.mp e
  cases e
  exact ⟨W, ρ, env, h0, q1.1, q1.2, S, e1, fun vs H1 W1 ρ1 S1 X1 R1 => ⟨W1, ρ1, env, q1.2, σ, q1.1, r, S1, R1, e2, p.ext X1⟩⟩
theorem s_pop (hx : XOk Θ c C X) (hK : BK Θ B X) {a k : E} {a' k' : Expr} {ap : Pos} (ha : PE X a' (tEv C B a)) (hk : PE X k' (tEv C B k)) (h1 : noStar k' = true) (h2 : noCall0 a' = true) (h3 : (ap.endLine == pos.line) = true) :
    PE X (.Call (.Attribute a' "pop" ap) [k'] [] pos) (tEv C B (.pop0 a k)) := by
  have hfew : ((backTo pos (starEach [k'] X.env)).all (fun x => !x.1) && (backToKw pos (keywordEach [] X.env)).all (fun x => x.1.isSome)
      && decide ([k'].length + ([] : List Keyword).length + (if ([] : List Keyword).isEmpty then 0 else 1) < 30)) = true := by
    rw [starEach_ok h1]; rfl
  refine (pe_bm PySem.F.plainAttrs_list PySem.F.slot_list_pop PySem.F.type_list_pop mt_popAt ha (pa_cons hk pa_nil (starEach_ok h1)) (attrBase_ok h2) hfew h3 (starEach_ok h1) rfl).mono fun σ H Q ⟨W, ρ, env, h0, r, h', S, e, p⟩ => ?_
  unfold evE at e
  obtain ⟨q1, e1, e⟩ := Option.bind_eq_some_iff.mp e
  obtain ⟨q2, e2, e⟩ := Option.bind_eq_some_iff.mp e
  split at e
  · rename_i n i en ei
    split at e
    · rename_i l hl
      obtain ⟨j, e3, e⟩ := Option.bind_eq_some_iff.mp e
      obtain ⟨d, e4, e⟩ := Option.bind_eq_some_iff.mp e
      split at e
      · rename_i hb
        cases e
        refine ⟨W, ρ, env, h0, q1.1, q1.2, S, e1, fun v H1 W1 ρ1 S1 X1 R1 => ?_⟩
        rw [en] at R1
        cases R1 with
        | ref hn =>
          rename_i a1
          obtain ⟨o, ho⟩ : ∃ o, q1.2[n]? = some o := by
            have := (List.getElem?_eq_some_iff.mp hn).1
            rw [S1.hl] at this
            exact ⟨_, List.getElem?_eq_getElem this⟩
          refine ⟨?_, W1, ρ1, env, q1.2, q2.1, q2.2, S1, e2, fun v2 H2 W2 ρ2 S2 X2 R2 => ?_⟩
          · cases o with
            | lst l0 =>
              obtain ⟨vs, w1, w2⟩ := S1.obj n _ _ ho hn
              exact .inl ⟨rfl, vs, .inl (.inl w1)⟩
          · rw [ei] at R2
            cases R2
            have hn2 := pre_get X2.pre hn
            obtain ⟨vs, w1, w2⟩ := S2.obj n _ _ hl hn2
            obtain ⟨y, f1, f2⟩ := w2.get e4
            have hw := S2.rw _ (List.mem_of_getElem? hn2)
            refine ⟨a1, vs, i, j, y, rfl, rfl, w1, hb.1, hb.2, by rw [w2.len]; exact e3, f1, ?_⟩
            exact p _ _ W2 ρ2 (S2.objset hl hn2 w1 (w2.erase j)) ((X1.trans X2).trans (.objset (List.mem_of_getElem? hn2) hw w1)) (f2.chg hw w1)
      · cases e
    · cases e
  · cases e
theorem Ext.objnew {K : PySem.W.Frag} {W : Addr → Prop} {ρ : List Addr} {H : Hp} {p : Addr} {o : HO} (hp : H p = none) (ho : NT o := by first | exact nt_lst | exact nt_tup) : Ext K W ρ H (addW W p) (ρ ++ [p]) (upd H p o) := by
  have x : Ext K W ρ H (addW W p) ρ (upd H p o) := (addW_new hp).trans (.laid hp ho)
  refine ⟨x.fr, x.tr, List.prefix_append _ _, fun a z => ?_, x.tp, x.ls, x.wm, x.wn, x.tb⟩
  rcases List.mem_append.mp z with z | z
  · exact .inl z
  · rw [List.mem_singleton.mp z]; exact .inr hp
theorem new_f {m : E} : ∀ σ H Q, tEv C B (.new m) σ H Q → tEvF C B m σ H Q := fun σ H Q ⟨W, ρ, env, hh, r, h', S, ev, p⟩ => by
    unfold evE at ev
    obtain ⟨q, e1, ev⟩ := Option.bind_eq_some_iff.mp ev
    split at ev
    · rename_i l el
      cases ev
      refine ⟨W, ρ, env, hh, l, q.2, S, by rw [e1, ← el], fun a vs H1 W1 ρ1 S1 X1 ha R1 => p _ _ _ _ (S1.objnew ha R1) (X1.trans (.objnew ha)) (.ref ?_)⟩
      rw [← S1.hl, List.getElem?_append_right (Nat.le_refl _)]
      simp
    · cases ev
theorem s_new {e : Expr} {m : E} (h : PE X e (tEvF C B m)) : PE X e (tEv C B (.new m)) := h.mono new_f
def tyV' : Ty → String
  | .int => "int"
  | .bool => "bool"
  | .str => "str"
  | .tuple => "tuple"
  | .list => "list"
theorem tyName_boot (k : Ty) : bootBuiltins (tyName k) = some (.type (tyV' k)) := by cases k <;> decide +kernel
def tyOfD (h : Hh) : D → String
  | .non => "NoneType"
  | .bl _ => "bool"
  | .int _ => "int"
  | .str _ => "str"
  | .tup _ => "tuple"
  | _ => "list"
theorem tyX_of {W : Addr → Prop} {ρ : List Addr} {env : Env} {h : Hh} {σ : L2.St} {H : Hp} (S : SR B W ρ env h σ H) {v : V} {d : D} (r : WRep B.K W ρ H v d) : TyX B.K H v (.type (tyOfD h d)) := by
  have lo : ∀ {a : Addr} {vs : List V}, Rd H a (.lst vs) → TyX B.K H (.ref a) (.type "list") := fun {a vs} t => by
    rcases t with t | ⟨ob, t⟩
    · exact .base (.lst t)
    · exact .base (.frz t)
  rcases r with r | ⟨a, vs, l, rfl, rfl, q1, q2, q3⟩
  · cases r with
    | non => exact .base .non
    | bl b => exact .base (.bl b)
    | int i => exact .base (.int i)
    | str z => exact .base (.str z)
    | tup t rs =>
      rcases t with (t | ⟨ob, t⟩) | ⟨o, its, n, k1, k2, _⟩
      · exact .base (.tup t)
      · exact .fTuple t
      · exact .kTuple k1 k2
    | lst t n rs => exact lo t
    | ref hn =>
      obtain ⟨o, ho⟩ : ∃ o, h[_]? = some o := by
        have := (List.getElem?_eq_some_iff.mp hn).1
        rw [S.hl] at this
        exact ⟨_, List.getElem?_eq_getElem this⟩
      cases o with
      | lst l =>
        obtain ⟨vs, w1, w2⟩ := S.obj _ _ _ ho hn
        exact lo (.inl w1)
  · exact lo (.inl q1)
theorem kit_isi {K : PySem.W.Frag} {h : Hh} {k : Ty} {d : D} {b : Bool} (e : isiD h k d = some b) : PySem.W.kitOne K (.type (tyOfD h d)) (.type (tyV' k)) = some b := by
  refine kit_ty ?_
  have key : ∀ (t : Ty) (s : String) (b : Bool), b = decide (t = .list) → s = "list" → kitB s (tyV' t) = some b := fun t s b e1 e2 => by subst e1 e2; cases t <;> decide +kernel
  cases d with
  | non => cases e; show kitB "NoneType" _ = _; cases k <;> decide +kernel
  | bl x => cases e; show kitB "bool" _ = _; cases k <;> decide +kernel
  | int x => cases e; show kitB "int" _ = _; cases k <;> decide +kernel
  | str x => cases e; show kitB "str" _ = _; cases k <;> decide +kernel
  | tup x => cases e; show kitB "tuple" _ = _; cases k <;> decide +kernel
  | lst x => exact key k _ b (by cases e; rfl) rfl
  | ref n =>
    refine key k _ b ?_ rfl
    unfold isiD at e
    obtain ⟨l, _, e⟩ := Option.map_eq_some_iff.mp e
    exact e.symm
theorem s_isi (hx : XOk Θ c C X) (hK : BK Θ B X) {a : E} {k : Ty} {a' : Expr} {p p2 : Pos} (hg : okGl c "isinstance" = true) (hf : ("isinstance" : Str) ∈ c.free) (ha : PE X a' (tEvW C B a)) (hs : noStar a' = true) (hg2 : okGl c (tyName k) = true) (hf2 : tyName k ∈ c.free) :
    PE X (.Call (.Name "isinstance" p) [a', .Name (tyName k) p2] [] pos) (tEv C B (.isi a k)) := by
  obtain ⟨g1, g2, g3⟩ := glOk hx hg2
  have pt : PE X (.Name (tyName k) p2) (tC (.ty (tyV' k))) := pe_bltn g1 (hx.free _ hf2) (tyName_boot k) rfl g3 g2
  refine (pe_callB call_isi (glOk hx hg).1 (hx.free _ hf) (by decide +kernel) (pa_cons ha (pa_cons pt pa_nil) (starEach_ok hs)) (by decide) (by decide) (starEach_ok hs) rfl).mono fun σ H Q ⟨W, ρ, env, h0, r, h', S, e, p⟩ => ?_
  unfold evE at e
  obtain ⟨q1, e1, e⟩ := Option.bind_eq_some_iff.mp e
  obtain ⟨b, e2, e⟩ := Option.map_eq_some_iff.mp e
  cases e
  refine ⟨W, ρ, env, h0, q1.1, q1.2, S, e1, fun v H1 W1 ρ1 S1 X1 R1 => ?_⟩
  exact ⟨v, _, _, _, b, rfl, .ty _, hK.K ▸ tyX_of S1 R1, kit_isi e2, (p.ext X1).here S1 (.bl _)⟩
theorem few_ok {e : Expr} {env : PySem.Env} (h : noStar e = true) : ((backTo pos (starEach [e] env)).all (fun x => !x.1) && (backToKw pos (keywordEach [] env)).all (fun x => x.1.isSome)
      && decide ([e].length + ([] : List Keyword).length + (if ([] : List Keyword).isEmpty then 0 else 1) < 30)) = true := by
  rw [starEach_ok h]; rfl
theorem s_isi2 (hx : XOk Θ c C X) (hK : BK Θ B X) {a : E} {k l : Ty} {a' : Expr} {p p2 p3 p4 : Pos} {tk : Nat} (hg : okGl c "isinstance" = true) (hf : ("isinstance" : Str) ∈ c.free) (ha : PE X a' (tEvW C B a)) (hs : noStar a' = true)
    (hg2 : okGl c (tyName k) = true) (hf2 : tyName k ∈ c.free) (hg3 : okGl c (tyName l) = true) (hf3 : tyName l ∈ c.free) :
    PE X (.Call (.Name "isinstance" p) [a', .Tuple [.Name (tyName k) p2, .Name (tyName l) p3] tk p4] [] pos) (tEv C B (.isi2 a k l)) := by
  have pt : ∀ {k : Ty} {q : Pos}, okGl c (tyName k) = true → tyName k ∈ c.free → PE X (.Name (tyName k) q) (tC (.ty (tyV' k))) := fun {k q} hg hf => by
    obtain ⟨g1, g2, g3⟩ := glOk hx hg
    exact pe_bltn g1 (hx.free _ hf) (tyName_boot k) rfl g3 g2
  refine (pe_callB call_isiT (glOk hx hg).1 (hx.free _ hf) (by decide +kernel) (pa_cons ha (pa_cons (pe_tup (pa_cons (pt hg2 hf2) (pa_cons (pt hg3 hf3) pa_nil))) pa_nil) (starEach_ok hs)) (by decide) (by decide) (starEach_ok hs) rfl).mono fun σ H Q ⟨W, ρ, env, h0, r, h', S, e, p⟩ => ?_
  unfold evE at e
  obtain ⟨q1, e1, e⟩ := Option.bind_eq_some_iff.mp e
  obtain ⟨b, e2, e⟩ := Option.bind_eq_some_iff.mp e
  obtain ⟨b', e3, e⟩ := Option.map_eq_some_iff.mp e
  cases e
  refine ⟨W, ρ, env, h0, q1.1, q1.2, S, e1, fun v H1 W1 ρ1 S1 X1 R1 => ⟨by show 2 ≤ sizeLine; decide, fun a0 ha0 => ?_⟩⟩
  have S2 := S1.laid (o := .tup [.ty (tyV' k), .ty (tyV' l)]) ha0
  refine ⟨v, a0, _, _, [.type (tyV' k), .type (tyV' l)], b || b', rfl, upd_same, .cons (.ty _) (.cons (.ty _) .nil), hK.K ▸ tyX_of S2 (R1.ext (.laid ha0)), ?_, (p.ext (X1.trans (.laid ha0))).here S2 (.bl _)⟩
  refine kitAny_cons (kit_isi e2) (fun z => kitAny_cons (kit_isi e3) (fun z' => ?_) fun z' => ?_) fun z => ?_
  · rw [z, z']; exact kitAny_nil
  · rw [z, z']; rfl
  · rw [z]; rfl
theorem s_popl (hx : XOk Θ c C X) (hK : BK Θ B X) {a : E} {a' : Expr} {ap : Pos} (ha : PE X a' (tEv C B a)) (h2 : noCall0 a' = true) (h3 : (ap.endLine == pos.line) = true) :
    PE X (.Call (.Attribute a' "pop" ap) [] [] pos) (tEv C B (.popl a)) := by
  refine (pe_bm0 PySem.F.plainAttrs_list PySem.F.slot_list_pop PySem.F.type_list_pop mt_pop ha (attrBase_ok h2) h3).mono fun σ H Q ⟨W, ρ, env, h0, r, h', S, e, p⟩ => ?_
  unfold evE at e
  obtain ⟨q1, e1, e⟩ := Option.bind_eq_some_iff.mp e
  split at e
  · rename_i n en
    split at e
    · rename_i l hl
      obtain ⟨d, e4, e⟩ := Option.map_eq_some_iff.mp e
      cases e
      refine ⟨W, ρ, env, h0, q1.1, q1.2, S, e1, fun v H1 W1 ρ1 S1 X1 R1 => ?_⟩
      rw [en] at R1
      cases R1 with
      | ref hn =>
        rename_i a1
        obtain ⟨vs, w1, w2⟩ := S1.obj n _ _ hl hn
        refine ⟨.inl ⟨rfl, vs, .inl (.inl w1)⟩, ?_⟩
        obtain ⟨y, f1, f2⟩ := w2.get e4
        have hw := S1.rw _ (List.mem_of_getElem? hn)
        rw [← w2.len] at f1
        have rd : Reps B.K W1 ρ1 H1 vs.dropLast l.dropLast := by
          rw [List.dropLast_eq_take, List.dropLast_eq_take, w2.len]
          exact w2.take _
        refine ⟨a1, vs, y, rfl, rfl, w1, f1, ?_⟩
        exact p _ _ W1 ρ1 (S1.objset hl hn w1 rd) (X1.trans (.objset (List.mem_of_getElem? hn) hw w1)) (f2.chg hw w1)
    · cases e
  · cases e
theorem lstrip_cps (x y : Str) : (Txt.lstripChars x y).cps.toList = x.cps.toList.dropWhile fun z => decide (z ∈ y.cps.toList) := by
  have key : ∀ (p : Nat → Bool) (l : List Nat), l.drop (l.takeWhile p).length = l.dropWhile p := fun p l => by
    induction l with
    | nil => rfl
    | cons a r ih =>
      rw [List.takeWhile_cons, List.dropWhile_cons]
      split
      · rw [List.length_cons, List.drop_succ_cons, ih]
      · rfl
  have e0 : (fun z => decide (z ∈ y.cps.toList)) = y.cps.contains := by
    funext z
    rw [Bool.eq_iff_iff]
    simp
  rw [e0]
  unfold Txt.lstripChars Txt.stripBy
  split
  · rename_i h
    unfold PySem.stripSame PySem.stripLo at h
    rw [Bool.and_eq_true] at h
    have h1 : (x.cps.toList.takeWhile y.cps.contains).length = 0 := eq_of_beq h.1
    rw [← key, h1, List.drop_zero]
  · unfold PySem.stripped
    have : PySem.stripHi y.cps.contains false x (PySem.stripLo y.cps.contains true x) = x.length := rfl
    rw [this]
    rw [show (Builtin.Str.strSub x (PySem.stripLo y.cps.contains true x) x.length).cps.toList = x.cps.toList.drop (PySem.stripLo y.cps.contains true x) from TL.tl_strSub_end x _]
    exact key _ _
theorem s_join (hx : XOk Θ c C X) (hK : BK Θ B X) {a b : E} {a' b' : Expr} {ap : Pos} (ha : PE X a' (tEv C B a)) (hb : PE X b' (tEvW C B b)) (h1 : noStar b' = true) (h2 : noCall0 a' = true) (h3 : (ap.endLine == pos.line) = true) :
    PE X (.Call (.Attribute a' "join" ap) [b'] [] pos) (tEv C B (.join a b)) := by
  refine (pe_join ha hb (starEach_ok h1) (attrBase_ok h2) h3).mono fun σ H Q ⟨W, ρ, env, h0, r, h', S, e, p⟩ => ?_
  unfold evE at e
  obtain ⟨q1, e1, e⟩ := Option.bind_eq_some_iff.mp e
  obtain ⟨q2, e2, e⟩ := Option.bind_eq_some_iff.mp e
  split at e
  · rename_i x ex
    obtain ⟨l, e3, e⟩ := Option.bind_eq_some_iff.mp e
    obtain ⟨ls, e4, e⟩ := Option.bind_eq_some_iff.mp e
    split at e
    · rename_i hl
      cases e
      refine ⟨W, ρ, env, h0, q1.1, q1.2, S, e1, fun v H1 W1 ρ1 S1 X1 R1 => ?_⟩
      rw [ex] at R1
      obtain ⟨z, rfl, ez⟩ := wStr (.inl R1)
      subst ez
      refine ⟨⟨z, rfl⟩, W1, ρ1, env, q1.2, q2.1, q2.2, S1, e2, fun v2 H2 W2 ρ2 S2 X2 R2 => ?_⟩
      obtain ⟨q, vs, rfl, t, rs⟩ := lstAt S2 R2 e3
      obtain ⟨ys, rfl, rfl⟩ := strs_of rs e4
      refine ⟨z, q, ys, rfl, rfl, .inl (.inl t), ?_, ?_⟩
      · have e5 : (ys.map TL.tl).map (·.length) = ys.map (·.length) := by
          rw [List.map_map]
          refine List.map_congr_left fun y _ => ?_
          simp [str_len]
        rw [e5, List.length_map] at hl
        rw [str_len z]
        exact Nat.le_trans hl (by decide)
      · refine (p.ext (X1.trans X2)).here S2 ?_
        rw [← TL.tl_join, ← TL.join_eq]
        exact .str _
    · cases e
  · cases e
theorem s_lstr (hx : XOk Θ c C X) (hK : BK Θ B X) {a b : E} {a' b' : Expr} {ap : Pos} (ha : PE X a' (tEv C B a)) (hb : PE X b' (tEv C B b)) (h1 : noStar b' = true) (h2 : noCall0 a' = true) (h3 : (ap.endLine == pos.line) = true) :
    PE X (.Call (.Attribute a' "lstrip" ap) [b'] [] pos) (tEv C B (.lstr a b)) := by
  refine (pe_m1 F.slot_str_lstrip F.type_str_lstrip mt_lstripChars ha hb (starEach_ok h1) (attrBase_ok h2) h3).mono fun σ H Q ⟨W, ρ, env, h0, r, h', S, e, p⟩ => ?_
  unfold evE at e
  obtain ⟨q1, e1, e⟩ := Option.bind_eq_some_iff.mp e
  obtain ⟨q2, e2, e⟩ := Option.bind_eq_some_iff.mp e
  split at e
  · rename_i x y ex ey
    split at e
    · rename_i hl
      cases e
      refine ⟨W, ρ, env, h0, q1.1, q1.2, S, e1, fun v H1 W1 ρ1 S1 X1 R1 => ?_⟩
      rw [ex] at R1
      obtain ⟨z, rfl, ez⟩ := wStr (.inl R1)
      subst ez
      refine ⟨⟨z, rfl⟩, W1, ρ1, env, q1.2, q2.1, q2.2, S1, e2, fun v2 H2 W2 ρ2 S2 X2 R2 => ?_⟩
      rw [ey] at R2
      obtain ⟨z2, rfl, ez2⟩ := wStr (.inl R2)
      subst ez2
      refine ⟨z, z2, rfl, rfl, by rw [str_len]; exact most_line hl, (p.ext (X1.trans X2)).here S2 ?_⟩
      rw [← lstrip_cps]
      exact .str _
    · cases e
  · cases e
theorem kv_of : ∀ {kv : List (List Nat × List Nat)} {ks : List (Option Expr)} {vs : List Expr}, chkKV kv ks vs = true → ∃ qs : List (Str × Str), PPs X pos ks vs (qs.map fun q => (tC (.str q.1), tC (.str q.2))) ∧ kv = qs.map (fun q => (q.1.cps.toList, q.2.cps.toList)) ∧ ks.length = kv.length ∧ vs.length = kv.length ∧ ks.all (·.isSome) = true
  | [], ks, vs, h => by
    unfold chkKV at h
    split at h
    · exact ⟨[], pps_nil, rfl, rfl, rfl, rfl⟩
    · contradiction
    · cases h
  | (k, v) :: r, ks, vs, h => by
    unfold chkKV at h
    split at h
    · contradiction
    · rename_i k1 v1 r1 a ka pa ks' b kb pb vs' e
      cases e
      simp only
                                                                  [Bool.and_eq_true, decide_eq_true_eq]
                                                                  at h
      obtain ⟨h1, h2, h3⟩ := h
      obtain ⟨qs, p1, p2, p3, p4, p5⟩ := kv_of h3
      exact ⟨(a, b) :: qs, pps_cons pe_str pe_str p1, by rw [List.map_cons, ← p2, h1, h2], by simp [p3], by simp [p4], by simpa using p5⟩
    · cases h
theorem tpairs_of {σ : L2.St} {H : Hp} {Q : List (V × V) → Hp → Prop} : ∀ {qs : List (Str × Str)}, Q (qs.map fun q => (V.str q.1, V.str q.2)) H → tPairs (qs.map fun q => (tC (.str q.1), tC (.str q.2))) σ H Q
  | [], h => h
  | q :: qs, h => by
    show tPairs (qs.map fun q => (tC (.str q.1), tC (.str q.2))) σ H fun ps H3 => Q ((V.str q.1, V.str q.2) :: ps) H3
    exact tpairs_of (Q := fun ps H3 => Q ((V.str q.1, V.str q.2) :: ps) H3) h
theorem merge_new : ∀ {more acc : List (Key × V)}, (∀ k, k ∈ more.map (·.1) → k ∉ acc.map (·.1)) → (more.map (·.1)).Nodup → mergeK acc more = acc ++ more
  | [], acc, _, _ => by simp [mergeK]
  | p :: more, acc, h1, h2 => by
    have e : putK acc p.1 p.2 = acc ++ [p] := by
      unfold putK
      rw [if_neg]
      intro z
      obtain ⟨q, hq, z⟩ := List.any_eq_true.mp z
      have z := of_decide_eq_true z
      exact h1 p.1 (by simp) (by rw [← z]; exact List.mem_map_of_mem hq)
    show mergeK (putK acc p.1 p.2) more = _
    rw [List.map_cons, List.nodup_cons] at h2
    rw [e, merge_new (fun k hk z => ?_) h2.2, List.append_assoc]
    · rfl
    · rw [List.map_append, List.mem_append] at z
      rcases z with z | z
      · exact h1 k (by rw [List.map_cons]; exact List.mem_cons_of_mem _ hk) z
      · simp at z
        subst z
        exact h2.1 hk
theorem s_dget (hx : XOk Θ c C X) (hK : BK Θ B X) {kv : List (List Nat × List Nat)} {b : E} {ks : List (Option Expr)} {vs : List Expr} {b' : Expr} {ap dp : Pos} (hk : chkKV kv ks vs = true) (hn : (kv.map (·.1)).Nodup) (hne : kv ≠ []) (h15 : kv.length ≤ 15)
    (hb : PE X b' (tEv C B b)) (h1 : noStar b' = true) (h3 : (ap.endLine == pos.line) = true) :
    PE X (.Call (.Attribute (.Dict ks vs dp) "get" ap) [b'] [] pos) (tEv C B (.dget kv b)) := by
  obtain ⟨qs, p1, p2, p3, p4, p5⟩ := kv_of (X := X) (pos := dp) hk
  have m : M1 X (.Dict ks vs dp) "get" ap b' pos := ⟨attrBase_ok rfl, few_ok h1, h3, by rw [starEach_ok h1]; rfl⟩
  refine (pe_dget1 (by have := hx.un; omega) (pe_disp p1 p5 (by rw [p3, p4]) (fun z => hne (by rw [z] at p3; exact List.eq_nil_of_length_eq_zero p3.symm)) (by rw [p3]; exact h15)) hb m).mono fun σ H Q ⟨W, ρ, env, h0, r, h', S, e, p⟩ => ?_
  unfold evE at e
  obtain ⟨q1, e1, e⟩ := Option.bind_eq_some_iff.mp e
  split at e
  · rename_i x ex
    cases e
    intro a ha
    have S1 := S.laid (o := .dK []) ha (fun _ z => by cases z)
    refine tpairs_of ⟨upd_same, qs.map fun q => (Sum.inr q.1, V.str q.2), by rw [List.map_map]; rfl, by rw [List.length_map]; have := congrArg List.length p2; rw [List.length_map] at this; omega, ?_⟩
    have nd : ((qs.map fun q => ((Sum.inr q.1 : Key), V.str q.2)).map (·.1)).Nodup := by
      rw [List.map_map]
      rw [p2, List.map_map] at hn
      exact List.pairwise_map.mpr ((List.pairwise_map.mp hn).imp fun h e => h (by have := Sum.inr.inj e; simp only [Function.comp] at this ⊢; rw [this]))
    rw [merge_new (fun k _ z => by cases z) nd, List.nil_append, upd_upd]
    have S2 := S.laid (o := .dK (qs.map fun q => (Sum.inr q.1, V.str q.2))) ha (fun _ z => by cases z)
    have X2 : Ext B.K W ρ H W ρ (upd H a (.dK (qs.map fun q => (Sum.inr q.1, V.str q.2)))) := .laid ha (fun _ z => by cases z)
    refine ⟨a, rfl, .inl ⟨_, .inl upd_same⟩, W, ρ, env, h0, q1.1, q1.2, S2, e1, fun v H3 W3 ρ3 S3 X3 R3 => ?_⟩
    rw [ex] at R3
    obtain ⟨z, rfl, ez⟩ := wStr (.inl R3)
    subst ez
    have na : a ∉ ρ := fun y => S.notW ha (S.rw _ y)
    have e3 := X3.fr a _ upd_same (fun _ z => by cases z) na
    refine ⟨_, DGet.k (k := .inr z) e3, (p.ext (X2.trans X3)).here S3 ?_⟩
    rw [p2]
    clear p1 p2 nd S2 X2 X3 e3 p5 p3 p4 hk hn hne h15
    induction qs with
    | nil => exact .non
    | cons q qs ih =>
      rw [List.map_cons,
                                                                  List.map_cons]
      by_cases ez : q.1 = z
      · rw [valV_pos (by simpa using ez), List.find?_cons_of_pos (by simp [ez])]
        exact .str _
      · have ez2 : ¬ q.1.cps.toList = z.cps.toList := fun y => ez (TL.ext_tl y)
        rw [valV_neg (fun y => ez (Sum.inr.inj y)), List.find?_cons_of_neg (by simpa using ez2)]
        exact ih
  · cases e
end
end MP

/-! MP: targets, what is walked, comprehensions. -/
namespace MP
open PySem
open PySem.Spec
open PyProof.Rows
open L2

/-! ### targets -/
theorem wipe_setN (σ : L2.St) (i : Nat) (x : Option V) : ∀ vs : List Nat, (wipe (σ.set i x) vs).set i none = (wipe σ vs).set i none
  | [] => by show (σ.set i x).set i none = σ.set i none; rw [List.set_set]
  | v :: vs => by
    show ((wipe (σ.set i x) vs).set v none).set i none = ((wipe σ vs).set v none).set i none
    by_cases e : v = i
    · subst e; rw [List.set_set, List.set_set]; exact wipe_setN σ v x vs
    · rw [List.set_comm _ _ e, wipe_setN σ i x vs, List.set_comm _ _ (Ne.symm e)]
theorem wipe_set (σ : L2.St) (i : Nat) (x : Option V) : ∀ vs : List Nat, i ∈ vs → wipe (σ.set i x) vs = wipe σ vs
  | [], h => by cases h
  | v :: vs, h => by
    show (wipe (σ.set i x) vs).set v none = (wipe σ vs).set v none
    by_cases e : v = i
    · subst e; exact wipe_setN σ v x vs
    · have hm : i ∈ vs := by
        rcases List.mem_cons.mp h with
                                                                    z | z
        · exact absurd z.symm e
        · exact z
      rw [wipe_set σ i x vs hm]
section
variable (B : Bx)
def tG (t : T) : TG := fun v σ H Q => ∃ W ρ env h d env', SR B W ρ env h σ H ∧ Rep B.K W ρ H v d ∧ asgT t d env = some env' ∧
  ∀ σ', SR B W ρ env' h σ' H → (∀ vs, (∀ i ∈ tSl t, i ∈ vs) → wipe σ' vs = wipe σ vs) → Q σ' H
def tGs (t : Ts) : TGs := fun v σ H Q => ∃ W ρ env h d env', SR B W ρ env h σ H ∧ Reps B.K W ρ H v d ∧ asgTs t d env = some env' ∧
  ∀ σ', SR B W ρ env' h σ' H → (∀ vs, (∀ i ∈ tsSl t, i ∈ vs) → wipe σ' vs = wipe σ vs) → Q σ' H
end
theorem _root_.L2.PG.mono {X : Cx} {e : Expr} {t t' : TG} (h : PG X e t) (m : ∀ v σ H Q, t' v σ H Q → t v σ H Q) : PG X e t' := ⟨fun pins s σ H v u Q I r q => h.run pins s σ H v u Q I r (m v σ H Q q)⟩
theorem _root_.L2.PGs.mono {X : Cx} {e : List Expr} {t t' : TGs} (h : PGs X e t) (m : ∀ v σ H Q, t' v σ H Q → t v σ H Q) : PGs X e t' := ⟨fun pins s σ H v u Q I r q => h.run pins s σ H v u Q I r (m v σ H Q q)⟩
theorem asgEach_len {env : PySem.Env} : ∀ {es : List Expr}, noStars es = true → (assignEach es env).length = es.length ∧ (assignEach es env).findIdx? (·.1) = none
  | [], _ => ⟨rfl, rfl⟩
  | e :: r, h => by
    simp only [noStars, Bool.and_eq_true] at h
    rw [assignEach_ok h.1]
    obtain ⟨h1, h2⟩ := asgEach_len (env := env) h.2
    exact ⟨by simp [h1], by simp [List.findIdx?_cons, h2]⟩
theorem asgTs_len : ∀ {ts : Ts} {ds : List D} {s s' : Env}, asgTs ts ds s = some s' → ∀ {c : Ct} {es : List Expr}, chkTs c ts es = true → es.length = ds.length ∧ noStars es = true
  | .nil, [], _, _, _, c, es, h => by
    unfold chkTs at h
    cases es with
    | nil => exact ⟨rfl, rfl⟩
    | cons => simp at h
  | .nil, _ :: _, _, _, e, _, _, _ => by unfold asgTs at e; cases e
  | .cons t r, [], _, _, e, _, _, _ => by unfold asgTs at e; cases e
  | .cons t r, d :: ds, s, s', e, c, es, h => by
    unfold asgTs at e
    obtain ⟨s1, e1, e⟩ := Option.bind_eq_some_iff.mp e
    unfold chkTs at h
    cases es with
    | nil => simp at h
    | cons a q =>
      simp only [Bool.and_eq_true]
                                                                  at h
      obtain ⟨h1, h2⟩ := asgTs_len e h.2.2
      exact ⟨by simp [h1], by simp [noStars, h.1, h2]⟩
section
variable {c : Ct} {Θ : Addr → Prop} {C : Cfg} {B : Bx} {X : Cx} {pos : Pos}
mutual
theorem g_ok (hx : XOk Θ c C X) (hK : BK Θ B X) : ∀ (t : T) (e : Expr), chkT c t e = true → PG X e (tG B t)
  | .nm i, e, h => by
    unfold chkT at h
    cases e with
    | Name x p =>
      simp only
                                                                  [Bool.and_eq_true, decide_eq_true_eq]
                                                                  at h
      obtain ⟨h1, h2⟩ := hx.st x h.2
      refine (pg_name (by rw [hx.hN]; exact hx.nd) (by rw [hx.hN]; exact h.1) h1 h2).mono fun v σ H Q ⟨W, ρ, env, hh, d, env', S, R, e, p⟩ => ?_
      unfold asgT at e
      split at e
      · rename_i hi
        cases e
        exact p _ (S.setv hi R) fun vs hv => wipe_set σ i _ vs (hv i (by simp [tSl]))
      · cases e
    | _ => simp at h
  | .tp ts, e, h => by
    unfold chkT at h
    cases e with
    | Tuple es k p =>
      simp only at h
      have hs : ∀ {ds : List D} {s s' : Env}, asgTs ts ds s = some s' → es.length = ds.length ∧ noStars es = true := fun e => asgTs_len e h
      by_cases hns : noStars es = true
      · obtain ⟨l1, l2⟩ := asgEach_len (env := X.env) hns
        refine (pg_tup hx.calm (gs_ok hx hK ts es h) l1 l2).mono fun v σ H Q ⟨W, ρ, env, hh, d, env', S, R, e, p⟩ => ?_
        cases d with
        | tup ds =>
          unfold asgT at e
          cases R with
          | tup q1 q2 =>
            refine ⟨_, _, rfl, hK.K ▸ q1, ?_, W, ρ, env, hh, ds, env', S, q2, e, fun σ' S' hw => p σ' S' fun vs hv => hw vs fun i hi => hv i (by simpa [tSl] using hi)⟩
            rw [q2.len]
            exact (hs e).1.symm
        | _ => unfold asgT at e; cases e
      · refine ⟨fun pins s σ H v u Q I r ⟨W, ρ, env, hh, d, env', S, R, e, p⟩ => ?_⟩
        cases d with
        | tup ds => unfold asgT at e; exact absurd (hs e).2 hns
        | _ => unfold asgT at e; cases e
    | _ => simp at h
theorem gs_ok (hx : XOk Θ c C X) (hK : BK Θ B X) : ∀ (t : Ts) (es : List Expr), chkTs c t es = true → PGs X es (tGs B t)
  | .nil, es, h => by
    unfold chkTs at h
    cases es with
    | nil =>
      refine pgs_nil.mono fun v σ H Q ⟨W, ρ, env, hh, d, env', S, R, e, p⟩ => ?_
      cases d with
      | nil =>
        unfold asgTs at e
        cases e
        cases R
        exact ⟨rfl, p σ S fun _ _ => rfl⟩
      | cons => unfold asgTs at e; cases e
    | cons => simp at h
  | .cons t r, es, h => by
    unfold chkTs at h
    cases es with
    | nil => simp at h
    | cons a q =>
      simp only [Bool.and_eq_true]
                                                                  at h
      refine (pgs_cons (g_ok hx hK t a h.2.1) (gs_ok hx hK r q h.2.2) (by rw [assignEach_ok h.1]; rfl)).mono fun v σ H Q ⟨W, ρ, env, hh, d, env', S, R, e, p⟩ => ?_
      cases d with
      | nil => unfold asgTs at e; cases e
      | cons d ds =>
        unfold asgTs at e
        obtain ⟨s1, e1, e⟩ := Option.bind_eq_some_iff.mp e
        cases R with
        | cons r1 r2 =>
          refine ⟨_, _, rfl, W, ρ, env, hh, d, s1, S, r1, e1, fun σ1 S1 w1 => ⟨W, ρ, s1, hh, ds, env', S1, r2, e, fun σ2 S2 w2 => p σ2 S2 fun vs hv => ?_⟩⟩
          rw [w2 vs fun i hi => hv i (by simp [tsSl, hi]), w1 vs fun i hi => hv i (by simp [tsSl, hi])]
end
end

/-! ### what is walked -/
/-- what a loop's turn leaves; P: protected lists that it leaves too -/
structure ExtS (K : PySem.W.Frag) (P : Addr → Prop) (W : Addr → Prop) (ρ : List Addr) (H : Hp) (W' : Addr → Prop) (ρ' : List Addr) (H' : Hp) : Prop where
  pre : ρ <+: ρ'
  tp : ∀ a vs, SqT K H a vs → SqT K H' a vs
  ls : ∀ a vs, ¬ W a → Rd H a (.lst vs) → ¬ W' a ∧ Rd H' a (.lst vs)
  ow : ∀ a vs, P a → H a = some (.lst vs) → H' a = some (.lst vs)
section
variable {K : PySem.W.Frag} {P : Addr → Prop} {W W' W2 : Addr → Prop} {ρ ρ' ρ2 : List Addr} {H H' H2 : Hp}
theorem ExtS.refl : ExtS K P W ρ H W ρ H := ⟨List.prefix_refl _, fun _ _ h => h, fun _ _ n h => ⟨n, h⟩, fun _ _ _ h => h⟩
theorem ExtS.trans (a : ExtS K P W ρ H W' ρ' H') (b : ExtS K P W' ρ' H' W2 ρ2 H2) : ExtS K P W ρ H W2 ρ2 H2 :=
  ⟨a.pre.trans b.pre, fun x vs e => b.tp x vs (a.tp x vs e), fun x vs n e => let ⟨n', e'⟩ := a.ls x vs n e; b.ls x vs n' e', fun x vs p e => b.ow x vs p (a.ow x vs p e)⟩
theorem Rep.exts (x : ExtS K P W ρ H W' ρ' H') {v : V} {d : D} (r : Rep K W ρ H v d) : Rep K W' ρ' H' v d := r.map x.tp x.ls fun _ _ => pre_get x.pre
theorem Reps.exts (x : ExtS K P W ρ H W' ρ' H') {v : List V} {d : List D} (r : Reps K W ρ H v d) : Reps K W' ρ' H' v d := r.map x.tp x.ls fun _ _ => pre_get x.pre
theorem Ext.s (x : Ext K W ρ H W' ρ' H') (hp : ∀ a, P a → a ∉ ρ) : ExtS K P W ρ H W' ρ' H' := ⟨x.pre, x.tp, x.ls, fun a vs p e => x.fr a _ e nt_lst (hp a p)⟩
/-- the iterator J yields these -/
structure SrcOk (K : PySem.W.Frag) (P : Addr → Prop) (W : Addr → Prop) (ρ : List Addr) (H : Hp) (J : It) (items : List D) : Prop where
  go : ∀ W' ρ' H', ExtS K P W ρ H W' ρ' H' → ∀ i, i < items.length → J.go i H'
  stop : ∀ W' ρ' H', ExtS K P W ρ H W' ρ' H' → J.stop items.length H'
  yl : ∀ W' ρ' H', ExtS K P W ρ H W' ρ' H' → ∀ i x H2 d, items[i]? = some d → J.yld i H' x H2 → ((H2 = H' ∨ ∃ T vs, H' T = none ∧ H2 = upd H' T (.tup vs)) ∧ Rep K W' ρ' H2 x d)
theorem lst_at (hp : W' = W' → True) {a : Addr} {vs : List V} (x : ExtS K P W ρ H W' ρ' H') (h : (¬ W a ∧ Rd H a (.lst vs)) ∨ (P a ∧ H a = some (.lst vs))) : SqL K H' a vs := by
  rcases h with ⟨h1, h2⟩
                                                              | ⟨h1, h2⟩
  · exact .inl (x.ls a vs h1 h2).2
  · exact .inl (.inl (x.ow a vs h1 h2))
theorem src_list {a : Addr} {vs : List V} {l : List D} (h : (¬ W a ∧ Rd H a (.lst vs)) ∨ (P a ∧ H a = some (.lst vs))) (r : Reps K W ρ H vs l) : SrcOk K P W ρ H (Itl K a) l where
  go := fun W' ρ' H' x i hi => by
    have hv : i < vs.length := by rw [r.len]; exact hi
    exact ⟨vs, vs[i], lst_at (fun _ => trivial) x h, by simp [hv]⟩
  stop := fun W' ρ' H' x => ⟨vs, lst_at (fun _ => trivial) x h, by rw [r.len]; exact Nat.le_refl _⟩
  yl := fun W' ρ' H' x i v H2 d e y => by
    obtain ⟨rfl, y2⟩ := y
    obtain ⟨v', e1, r1⟩ := (r.exts x).get e
    have e2 := y2 vs (lst_at (fun _ => trivial) x h)
    rw [e1] at e2; cases e2
    exact ⟨.inl rfl, r1⟩
theorem src_tup {a : Addr} {vs : List V} {l : List D} (h : SqT K H a vs) (r : Reps K W ρ H vs l) : SrcOk K P W ρ H (Itt K a) l where
  go := fun W' ρ' H' x i hi => by
    have hv : i < vs.length := by rw [r.len]; exact hi
    exact ⟨vs, vs[i], x.tp _ _ h, by simp [hv]⟩
  stop := fun W' ρ' H' x => ⟨vs, x.tp _ _ h, by rw [r.len]; exact Nat.le_refl _⟩
  yl := fun W' ρ' H' x i v H2 d e y => by
    obtain ⟨rfl, y2⟩ := y
    obtain ⟨v', e1, r1⟩ := (r.exts x).get e
    have e2 := y2 vs (x.tp _ _ h)
    rw [e1] at e2; cases e2
    exact ⟨.inl rfl, r1⟩
theorem src_str {z : Str} : SrcOk K P W ρ H (Its z) (z.cps.toList.map fun c => .str [c]) where
  go := fun W' ρ' H' x i hi => by
    show i < z.cps.size
    simpa using hi
  stop := fun W' ρ' H' x => by
    show z.cps.size ≤ _
    simp
  yl := fun W' ρ' H' x i v H2 d e y => by
    obtain ⟨rfl, c, e1, rfl⟩ := y
    rw [List.getElem?_map] at e
    obtain ⟨c', e2, rfl⟩ := Option.map_eq_some_iff.mp e
    have e3 : c' = c := by
      rw [Array.getElem?_toList] at e2
      rw [e1] at e2; exact (Option.some.inj e2).symm
    subst e3
    exact ⟨.inl rfl, .str ⟨#[c']⟩⟩
theorem rgD_len (lo hi : Int) : (rgD lo hi).length = (hi - lo).toNat := by simp [rgD]
theorem src_rg {lo hi : Int} : SrcOk K P W ρ H (Itr lo (hi - lo).toNat) (rgD lo hi) where
  go := fun W' ρ' H' x i hi' => by rw [rgD_len] at hi'; exact hi'
  stop := fun W' ρ' H' x => by rw [rgD_len]; exact Nat.le_refl _
  yl := fun W' ρ' H' x i v H2 d e y => by
    obtain ⟨rfl, rfl⟩ := y
    unfold rgD at e
    rw [List.getElem?_map] at e
    obtain ⟨k, e2, rfl⟩ := Option.map_eq_some_iff.mp e
    have hk := List.getElem?_eq_some_iff.mp e2
    obtain ⟨hk, e3⟩ := hk
    rw [List.getElem_range] at e3
    subst e3
    exact ⟨.inl rfl, .int _⟩
theorem src_enum {a : Addr} {vs : List V} {l : List D} (h : (¬ W a ∧ Rd H a (.lst vs)) ∨ (P a ∧ H a = some (.lst vs))) (r : Reps K W ρ H vs l) : SrcOk K P W ρ H (Ite K a) (l.zipIdx.map fun x => .tup [.int x.2, x.1]) where
  go := fun W' ρ' H' x i hi => by
    have hv : i < vs.length := by rw [r.len]; simpa using hi
    exact ⟨vs, vs[i], lst_at (fun _ => trivial) x h, by simp [hv]⟩
  stop := fun W' ρ' H' x => ⟨vs, lst_at (fun _ => trivial) x h, by rw [r.len]; simp⟩
  yl := fun W' ρ' H' x i v H2 d e y => by
    obtain ⟨T, u, rfl, hT, rfl, y2⟩ := y
    rw [List.getElem?_map] at e
    obtain ⟨q, e2, rfl⟩ := Option.map_eq_some_iff.mp e
    rw [List.getElem?_zipIdx] at e2
    obtain ⟨d0, e3, rfl⟩ := Option.map_eq_some_iff.mp e2
    obtain ⟨v', e1, r1⟩ := (r.exts x).get e3
    have e4 := y2 vs (lst_at (fun _ => trivial) x h)
    rw [e1] at e4; cases e4
    refine ⟨.inr ⟨T, _, hT, rfl⟩, .tup (.inl (.inl upd_same)) (.cons ?_ (.cons (r1.laid hT) .nil))⟩
    simp
    exact .int _
theorem src_enumS {z : Str} : SrcOk K P W ρ H (Ites z) (z.cps.toList.zipIdx.map fun x => .tup [.int x.2, .str [x.1]]) where
  go := fun W' ρ' H' x i hi => by
    show i < z.cps.size
    simpa using hi
  stop := fun W' ρ' H' x => by
    show _ = z.cps.size
    simp
  yl := fun W' ρ' H' x i v H2 d e y => by
    obtain ⟨T, c, rfl, hT, rfl, y2⟩ := y
    rw [List.getElem?_map] at e
    obtain ⟨q, e2, rfl⟩ := Option.map_eq_some_iff.mp e
    rw [List.getElem?_zipIdx] at e2
    obtain ⟨d0, e3, rfl⟩ := Option.map_eq_some_iff.mp e2
    rw [Array.getElem?_toList] at e3
    rw [y2] at e3; cases e3
    refine ⟨.inr ⟨T, _, hT, rfl⟩, .tup (.inl (.inl upd_same)) (.cons ?_ (.cons (.str ⟨#[c]⟩) .nil))⟩
    simp
    exact .int _
theorem src_zipL {a b : Addr} {vs ws : List V} {l m : List D} (h : (¬ W a ∧ Rd H a (.lst vs)) ∨ (P a ∧ H a = some (.lst vs))) (h2 : (¬ W b ∧ Rd H b (.lst ws)) ∨ (P b ∧ H b = some (.lst ws)))
    (r : Reps K W ρ H vs l) (r2 : Reps K W ρ H ws m) : SrcOk K P W ρ H (Itz K a b) ((l.zip m).map fun x => .tup [x.1, x.2]) where
  go := fun W' ρ' H' x i hi => by
    have hv : i < vs.length := by rw [r.len]; simp at hi; omega
    have hw : i < ws.length := by rw [r2.len]; simp at hi; omega
    exact ⟨vs, ws, vs[i], ws[i], lst_at (fun _ => trivial) x h, lst_at (fun _ => trivial) x h2, by simp [hv], by simp [hw]⟩
  stop := fun W' ρ' H' x => ⟨vs, ws, lst_at (fun _ => trivial) x h, lst_at (fun _ => trivial) x h2, by rw [r.len, r2.len]; simp; omega⟩
  yl := fun W' ρ' H' x i v H2 d e y => by
    obtain ⟨T, u, w, rfl, hT, rfl, y2, y3⟩ := y
    rw [List.getElem?_map] at e
    obtain ⟨q, e2, rfl⟩ := Option.map_eq_some_iff.mp e
    rw [List.getElem?_zip_eq_some] at e2
    obtain ⟨v', e1, r1⟩ := (r.exts x).get e2.1
    obtain ⟨w', e5, r5⟩ := (r2.exts x).get e2.2
    have e4 := y2 vs (lst_at (fun _ => trivial) x h)
    have e6 := y3 ws (lst_at (fun _ => trivial) x h2)
    rw [e1] at e4; cases e4
    rw [e5] at e6; cases e6
    exact ⟨.inr ⟨T, _, hT, rfl⟩, .tup (.inl (.inl upd_same)) (.cons (r1.laid hT) (.cons (r5.laid hT) .nil))⟩
theorem src_zipT {a b : Addr} {vs ws : List V} {l m : List D} (h : SqT K H a vs) (h2 : SqT K H b ws)
    (r : Reps K W ρ H vs l) (r2 : Reps K W ρ H ws m) : SrcOk K P W ρ H (RZ.ItzT K a b) ((l.zip m).map fun x => .tup [x.1, x.2]) where
  go := fun W' ρ' H' x i hi => by
    have hv : i < vs.length := by rw [r.len]; simp at hi; omega
    have hw : i < ws.length := by rw [r2.len]; simp at hi; omega
    exact ⟨vs, ws, vs[i], ws[i], x.tp _ _ h, x.tp _ _ h2, by simp [hv], by simp [hw]⟩
  stop := fun W' ρ' H' x => ⟨vs, ws, x.tp _ _ h, x.tp _ _ h2, by rw [r.len, r2.len]; simp; omega⟩
  yl := fun W' ρ' H' x i v H2 d e y => by
    obtain ⟨T, u, w, rfl, hT, rfl, y2, y3⟩ := y
    rw [List.getElem?_map] at e
    obtain ⟨q, e2, rfl⟩ := Option.map_eq_some_iff.mp e
    rw [List.getElem?_zip_eq_some] at e2
    obtain ⟨v', e1, r1⟩ := (r.exts x).get e2.1
    obtain ⟨w', e5, r5⟩ := (r2.exts x).get e2.2
    have e4 := y2 vs (x.tp _ _ h)
    have e6 := y3 ws (x.tp _ _ h2)
    rw [e1] at e4; cases e4
    rw [e5] at e6; cases e6
    exact ⟨.inr ⟨T, _, hT, rfl⟩, .tup (.inl (.inl upd_same)) (.cons (r1.laid hT) (.cons (r5.laid hT) .nil))⟩
end
end MP

/-! MP: sources, comprehensions. -/
namespace MP
open PySem
open PySem.Spec
open PyProof.Rows
open L2

section
variable (C : Cfg) (B : Bx)
def QRep (K : PySem.W.Frag) (w : Bool) (W : Addr → Prop) (ρ : List Addr) (H : Hp) (v : V) (d : D) : Prop := Rep K W ρ H v d ∨ (w = true ∧ WRep K W ρ H v d)
def tEvQ (w : Bool) (m : E) : TE := fun σ H Q => ∃ W ρ env h r h', SR B W ρ env h σ H ∧ evE C m env h = some (r, h') ∧
  ∀ v H' W' ρ', SR B W' ρ' env h' σ H' → Ext B.K W ρ H W' ρ' H' → QRep B.K w W' ρ' H' v r → Q v H'
def tSrc (w : Bool) (src : Src) : TI := fun σ H R => ∃ W ρ env h items h', SR B W ρ env h σ H ∧ evSrc C src env h = some (items, h') ∧
  ∀ J H' W' ρ', SR B W' ρ' env h' σ H' → Ext B.K W ρ H W' ρ' H' → SrcOk B.K (fun a => w = true ∧ H' a ≠ none ∧ a ∉ ρ') W' ρ' H' J items → R J H'
def tEvIf (m : Oe) : TT := fun σ H Q => ∃ W ρ env h r h', SR B W ρ env h σ H ∧ evIf C m env h = some (r, h') ∧ PostB B W ρ H env σ h' r Q
end
theorem _root_.L2.PI.mono {X : Cx} {tg e : Expr} {t t' : TI} (h : PI X tg e t) (m : ∀ σ H Q, t' σ H Q → t σ H Q) : PI X tg e t' := ⟨fun pins s σ H Q I q => h.run pins s σ H Q I (m σ H Q q)⟩
/-- what is walked is a list, a tuple or a text -/
def iOf (K : PySem.W.Frag) (te : TE) : TI := fun σ H R => te σ H fun x H1 => (∃ a xs, x = .ref a ∧ SqL K H1 a xs ∧ R (Itl K a) H1) ∨ (∃ a xs, x = .ref a ∧ SqT K H1 a xs ∧ R (Itt K a) H1) ∨ ∃ z, x = .str z ∧ R (Its z) H1
theorem pi_of {X : Cx} {tg l : Expr} {tl : TE} (hl : PE X l tl) : PI X tg l (iOf X.K tl) := by
  refine ⟨fun pins s σ H
                                                              R I h => ?_⟩
  refine thn (hl.run pins s σ H _ I h) fun
                                                              v s1 ⟨x, H1, I1, r1, q1⟩ => ?_
  rcases q1 with ⟨a, xs, e, hq, q⟩ | ⟨a, xs, e, hq, q⟩ | ⟨z, e, q⟩
  · subst e
    cases r1
    obtain ⟨its, rv, p, hz⟩
                                                                := I1.list hq
    exact wpAny_pyIter_list p.isList (pi_one (tk := s1.toks) I1 _ (turn_list a _) ⟨_, Heap.get?_push_size _ rfl, rfl, rfl⟩ q)
  · subst e
    cases r1
    obtain ⟨its, rv, p, hz⟩
                                                                := I1.tuple hq
    exact wpAny_pyIter_tuple (show s1.heap.IsTuple a its.toArray from p) (pi_one (tk := s1.toks) I1 _ (turn_tuple a _) ⟨_, Heap.get?_push_size _ rfl, rfl, rfl⟩ q)
  · subst e
    obtain ⟨t, rfl⟩ := r1
    cases ha : z.cps.all (· < 128)
    · exact wpAny_pyIter_wide ha (pi_one (tk := s1.toks) I1 _ (turn_str _ z t "str_iterator" (.inr rfl)) ⟨_, Heap.get?_push_size _ rfl, rfl, rfl⟩ q)
    · exact wpAny_pyIter_ascii ha (pi_one (tk := s1.toks) I1 _ (turn_str _ z t "str_ascii_iterator" (.inl rfl)) ⟨_, Heap.get?_push_size _ rfl, rfl, rfl⟩ q)
section
variable {c : Ct} {Θ : Addr → Prop} {C : Cfg} {B : Bx} {X : Cx} {pos : Pos}
theorem q_of {w : Bool} {e : Expr} {m : E} (h : PE X e (tEv C B m)) : PE X e (tEvQ C B w m) :=
  h.mono fun σ H Q ⟨W, ρ, env, hh, r, h', S, e, p⟩ => ⟨W, ρ, env, hh, r, h', S, e, fun v H' W' ρ' S' x q => p v H' W' ρ' S' x (.inl q)⟩
theorem q_w {e : Expr} {m : E} (h : PE X e (tEvW C B m)) : PE X e (tEvQ C B true m) :=
  h.mono fun σ H Q ⟨W, ρ, env, hh, r, h', S, e, p⟩ => ⟨W, ρ, env, hh, r, h', S, e, fun v H' W' ρ' S' x q => p v H' W' ρ' S' x (.inr ⟨rfl, q⟩)⟩
theorem q_lst {K : PySem.W.Frag} {w : Bool} {W : Addr → Prop} {ρ : List Addr} {H : Hp} {v : V} {l : List D} (q : QRep K w W ρ H v (.lst l)) :
    ∃ a vs, v = .ref a ∧ Reps K W ρ H vs l ∧ ((¬ W a ∧ Rd H a (.lst vs)) ∨ ((w = true ∧ H a ≠ none ∧ a ∉ ρ) ∧ H a = some (.lst vs))) ∧ SqL K H a vs := by
  rcases q with q | ⟨hw, q | ⟨a, vs, l', rfl, e, q1, q2, q3⟩⟩
  · cases q with
    | lst a1 a2 a3 => exact ⟨_, _, rfl, a3, .inl ⟨a2, a1⟩, .inl a1⟩
  · cases q with
    | lst a1 a2 a3 => exact ⟨_, _, rfl, a3, .inl ⟨a2, a1⟩, .inl a1⟩
  · cases e
    exact ⟨a, vs, rfl, q3, .inr ⟨⟨hw, by rw [q1]; simp, q2⟩, q1⟩, .inl (.inl q1)⟩
theorem q_tup {K : PySem.W.Frag} {w : Bool} {W : Addr → Prop} {ρ : List Addr} {H : Hp} {v : V} {l : List D} (q : QRep K w W ρ H v (.tup l)) : ∃ a vs, v = .ref a ∧ SqT K H a vs ∧ Reps K W ρ H vs l := by
  have q' : Rep K W ρ H v (.tup l) := by
    rcases q with q | ⟨_, q | ⟨a, vs, l', _, e, _⟩⟩
    · exact q
    · exact q
    · cases e
  cases q' with
  | tup a1 a2 => exact ⟨_, _, rfl, a1, a2⟩
theorem q_str {K : PySem.W.Frag} {w : Bool} {W : Addr → Prop} {ρ : List Addr} {H : Hp} {v : V} {l : List Nat} (q : QRep K w W ρ H v (.str l)) : ∃ z : Str, v = .str z ∧ l = z.cps.toList := by
  have q' : Rep K W ρ H v (.str l) := by
    rcases q with q | ⟨_, q | ⟨a, vs, l', _, e, _⟩⟩
    · exact q
    · exact q
    · cases e
  cases q' with
  | str z => exact ⟨z, rfl, rfl⟩
theorem i_of (hK : BK Θ B X) {w : Bool} {tg e : Expr} {a : E} (h : PE X e (tEvQ C B w a)) : PI X tg e (tSrc C B w (.of a)) :=
  (pi_of h).mono fun σ H R ⟨W, ρ, env, hh, items, h', S, e, p⟩ => by
    unfold evSrc at e
    obtain ⟨q1, e1, e⟩ := Option.bind_eq_some_iff.mp e
    refine ⟨W, ρ, env, hh, q1.1, q1.2, S, e1, fun v H1 W1 ρ1 S1 X1 R1 => ?_⟩
    split at e
    · rename_i l el
      cases e
      rw [el] at R1
      obtain ⟨b, vs, rfl, t1, t2⟩ := q_tup R1
      exact .inr (.inl ⟨b, vs, rfl, hK.K ▸ t1, hK.K ▸ p _ _ _ _ S1 X1 (src_tup t1 t2)⟩)
    · rename_i l el
      cases e
      rw [el] at R1
      obtain ⟨b, vs, rfl, t1, t2, t3⟩ := q_lst R1
      exact .inl ⟨b, vs, rfl, hK.K ▸ t3, hK.K ▸ p _ _ _ _ S1 X1 (src_list t2 t1)⟩
    · rename_i l el
      cases e
      rw [el] at R1
      obtain ⟨z, rfl, rfl⟩ := q_str R1
      exact .inr (.inr ⟨z, rfl, p _ _ _ _ S1 X1 src_str⟩)
    · cases e
theorem rg_ok {i : Int} (h : rgOk i = true) : -(2 ^ 62) ≤ i ∧ i < 2 ^ 62 := of_decide_eq_true h
theorem i_rg1 (hx : XOk Θ c C X) {w : Bool} {tg a' : Expr} {a : E} {p : Pos} (hg : okGl c "range" = true) (hf : ("range" : Str) ∈ c.free) (ha : PE X a' (tEvW C B a)) (hs : noStar a' = true) : PI X tg (.Call (.Name "range" p) [a'] [] pos) (tSrc C B w (.rg1 a)) :=
  (pi_range1 (glOk hx hg).1 (hx.free _ hf) (aw_cons ha aw_nil hs) (starEach_ok hs)).mono fun σ H R ⟨W, ρ, env, hh, items, h', S, e, p⟩ => by
    unfold evSrc at e
    obtain ⟨q1, e1, e⟩ := Option.bind_eq_some_iff.mp e
    obtain ⟨i, e2, e⟩ := Option.bind_eq_some_iff.mp e
    split at e
    · rename_i hr
      cases e
      refine ⟨W, ρ, env, hh, [q1.1], q1.2, S, by unfold evEs evEs; rw [e1]; rfl, fun vs H1 W1 ρ1 S1 X1 R1 => ?_⟩
      cases R1 with
      | cons r rr =>
        cases rr
        rw [isI_eq e2] at r
        refine ⟨i, by rw [wInt r], (rg_ok hr).1, (rg_ok hr).2, ?_⟩
        have := p (Itr 0 (i - 0).toNat) _ _ _ S1 X1 src_rg
        simpa using this
    · cases e
theorem i_rg2 (hx : XOk Θ c C X) {w : Bool} {tg a' b' : Expr} {a b : E} {p : Pos} (hg : okGl c "range" = true) (hf : ("range" : Str) ∈ c.free) (ha : PE X a' (tEvW C B a)) (hs : noStar a' = true) (hb : PE X b' (tEvW C B b)) (hs2 : noStar b' = true) :
    PI X tg (.Call (.Name "range" p) [a', b'] [] pos) (tSrc C B w (.rg2 a b)) :=
  (pi_range2 (glOk hx hg).1 (hx.free _ hf) (aw_cons ha (aw_cons hb aw_nil hs2) hs) (by rw [starEach_ok hs, starEach_ok hs2]; rfl) (starEach_ok hs2)).mono fun σ H R ⟨W, ρ, env, hh, items, h', S, e, p⟩ => by
    unfold evSrc at e
    obtain ⟨q1, e1, e⟩ := Option.bind_eq_some_iff.mp e
    obtain ⟨q2, e2, e⟩ := Option.bind_eq_some_iff.mp e
    obtain ⟨i, e3, e⟩ := Option.bind_eq_some_iff.mp e
    obtain ⟨j, e4, e⟩ := Option.bind_eq_some_iff.mp e
    split at e
    · rename_i hr
      rw [Bool.and_eq_true] at hr
      cases e
      refine ⟨W, ρ, env, hh, [q1.1, q2.1], q2.2, S, by unfold evEs evEs evEs; rw [e1]; show (Option.map _ (Option.bind (evE C b env q1.2) _)) = _; rw [e2]; rfl, fun vs H1 W1 ρ1 S1 X1 R1 => ?_⟩
      cases R1 with
      | cons r rr =>
        cases rr with
        | cons r' rr =>
          cases rr
          rw [isI_eq e3] at r
          rw [isI_eq e4] at r'
          exact ⟨i, j, by rw [wInt r, wInt r'], ⟨(rg_ok hr.1).1, (rg_ok hr.1).2, (rg_ok hr.2).1, (rg_ok hr.2).2⟩, p _ _ _ _ S1 X1 src_rg⟩
    · cases e
/-- one value as an argument list -/
def tOne (C : Cfg) (B : Bx) (w : Bool) (m : E) : TA := fun σ H Q => tEvQ C B w m σ H fun v H' => Q [v] H'
theorem a_one {w : Bool} {e : Expr} {m : E} (h : PE X e (tEvQ C B w m)) (hs : noStar e = true) : PA X [e] (tOne C B w m) :=
  (pa_cons h pa_nil (starEach_ok hs)).mono fun σ H Q q => q
theorem i_enum (hx : XOk Θ c C X) (hK : BK Θ B X) {w : Bool} {a' : Expr} {a : E} {p tpos : Pos} {elts : List Expr} {kk : Nat} (hg : okGl c "enumerate" = true) (hf : ("enumerate" : Str) ∈ c.free) (ha : PE X a' (tEvQ C B w a)) (hs : noStar a' = true) :
    PI X (.Tuple elts kk tpos) (.Call (.Name "enumerate" p) [a'] [] pos) (tSrc C B w (.enum a)) :=
  (pi_enumA (glOk hx hg).1 (hx.free _ hf) (a_one ha hs) (starEach_ok hs)).mono fun σ H R ⟨W, ρ, env, hh, items, h', S, e, p⟩ => by
    unfold evSrc at e
    obtain ⟨q1, e1, e⟩ := Option.bind_eq_some_iff.mp e
    refine ⟨W, ρ, env, hh, q1.1, q1.2, S, e1, fun v H1 W1 ρ1 S1 X1 R1 => ?_⟩
    split at e
    · rename_i l el
      cases e
      rw [el] at R1
      obtain ⟨b, vs, rfl, t1, t2, t3⟩ := q_lst R1
      exact .inl ⟨b, vs, rfl, hK.K ▸ t3, hK.K ▸ p _ _ _ _ S1 X1 (src_enum t2 t1)⟩
    · rename_i l el
      cases e
      rw [el] at R1
      obtain ⟨z, rfl, rfl⟩ := q_str R1
      exact .inr ⟨z, rfl, p _ _ _ _ S1 X1 src_enumS⟩
    · cases e
theorem QRep.ext {K : PySem.W.Frag} {w : Bool} {W W' : Addr → Prop} {ρ ρ' : List Addr} {H H' : Hp} (x : Ext K W ρ H W' ρ' H') {v : V} {d : D} (q : QRep K w W ρ H v d) : QRep K w W' ρ' H' v d :=
  q.imp (fun r => r.ext x) fun ⟨a, r⟩ => ⟨a, r.ext x⟩
theorem i_zip (hx : XOk Θ c C X) (hK : BK Θ B X) {w : Bool} {a' b' : Expr} {a b : E} {p tpos : Pos} {elts : List Expr} {kk : Nat} (hg : okGl c "zip" = true) (hf : ("zip" : Str) ∈ c.free) (ha : PE X a' (tEvQ C B w a)) (hs : noStar a' = true) (hb : PE X b' (tEvQ C B w b)) (hs2 : noStar b' = true) :
    PI X (.Tuple elts kk tpos) (.Call (.Name "zip" p) [a', b'] [] pos) (tSrc C B w (.zip a b)) :=
  (RZ.pi_zipA (glOk hx hg).1 (hx.free _ hf) (pa_cons ha (a_one hb hs2) (starEach_ok hs)) (starEach_ok hs) (by rw [starEach_ok hs2]; rfl)).mono fun σ H R ⟨W, ρ, env, hh, items, h', S, e, p⟩ => by
    unfold evSrc at e
    obtain ⟨q1, e1, e⟩ := Option.bind_eq_some_iff.mp e
    obtain ⟨q2, e2, e⟩ := Option.bind_eq_some_iff.mp e
    refine ⟨W, ρ, env, hh, q1.1, q1.2, S, e1, fun v H1 W1 ρ1 S1 X1 R1 => ⟨W1, ρ1, env, q1.2, q2.1, q2.2, S1, e2, fun v2 H2 W2 ρ2 S2 X2 R2 => ?_⟩⟩
    have R1 := R1.ext X2
    split at e
    · rename_i l m el em
      cases e
      rw [el] at R1
      rw [em] at R2
      obtain ⟨x, vs, rfl, t1, t2⟩ := q_tup R1
      obtain ⟨y, ws, rfl, u1, u2⟩ := q_tup R2
      exact ⟨x, y, vs, ws, rfl, .inr ⟨hK.K ▸ t1, hK.K ▸ u1, hK.K ▸ p _ _ _ _ S2 (X1.trans X2) (src_zipT t1 u1 t2 u2)⟩⟩
    · rename_i l m el em
      cases e
      rw [el] at R1
      rw [em] at R2
      obtain ⟨x, vs, rfl, t1, t2, t3⟩ := q_lst R1
      obtain ⟨y, ws, rfl, u1, u2, u3⟩ := q_lst R2
      exact ⟨x, y, vs, ws, rfl, .inl ⟨hK.K ▸ t3, hK.K ▸ u3, hK.K ▸ p _ _ _ _ S2 (X1.trans X2) (src_zipL t2 u2 t1 u1)⟩⟩
    · cases e

/-! ### tests of a clause -/
theorem if_no : PTs X [] (tEvIf C B .no) := ⟨fun pins s σ H Q I ⟨W, ρ, env, hh, r, h', S, e, p⟩ => by
  unfold evIf at e
  cases e
  exact pts_nil.run pins s σ H Q I (p H W ρ S .refl)⟩
theorem if_so {a : E} {a' : Expr} (ha : PT X a' (tTe C B a)) : PTs X [a'] (tEvIf C B (.so a)) := ⟨fun pins s σ H Q I ⟨W, ρ, env, hh, r, h', S, e, p⟩ => by
  unfold evIf at e
  obtain ⟨q1, e1, e⟩ := Option.bind_eq_some_iff.mp e
  obtain ⟨x, e2, e⟩ := Option.map_eq_some_iff.mp e
  have e3 : q1 = (.bl x, q1.2) := by rw [← isB_eq e2]
  rw [e3] at e1
  cases e
  exact (pts_one ha).run pins s σ H Q I ⟨W, ρ, env, hh, _, _, S, e1, p⟩⟩

/-! ### comprehensions -/
theorem wipe_sub (σ : L2.St) : ∀ (us vs : List Nat), (∀ i ∈ us, i ∈ vs) → wipe (wipe σ us) vs = wipe σ vs
  | [], _, _ => rfl
  | u :: us, vs, h => by
    show wipe ((wipe σ us).set u none) vs = _
    rw [wipe_set _ u none vs (h u (by simp)), wipe_sub σ us vs fun i hi => h i (by simp [hi])]
theorem wipeE_setN (s : Env) (i : Nat) (x : Slot) : ∀ vs : List Nat, (wipeE (s.set i x) vs).set i .un = (wipeE s vs).set i .un
  | [] => by show (s.set i x).set i .un = s.set i .un; rw [List.set_set]
  | v :: vs => by
    show ((wipeE (s.set i x) vs).set v .un).set i .un = ((wipeE s vs).set v .un).set i .un
    by_cases e : v = i
    · subst e; rw [List.set_set, List.set_set]; exact wipeE_setN s v x vs
    · rw [List.set_comm _ _ e, wipeE_setN s i x vs, List.set_comm _ _ (Ne.symm e)]
theorem wipeE_set (s : Env) (i : Nat) (x : Slot) : ∀ vs : List Nat, i ∈ vs → wipeE (s.set i x) vs = wipeE s vs
  | [], h => by cases h
  | v :: vs, h => by
    show (wipeE (s.set i x) vs).set v .un = (wipeE s vs).set v .un
    by_cases e : v = i
    · subst e; exact wipeE_setN s v x vs
    · have hm : i ∈ vs := by
        rcases List.mem_cons.mp h with
                                                                    z | z
        · exact absurd z.symm e
        · exact z
      rw [wipeE_set s i x vs hm]
theorem wipeE_sub (σ : Env) : ∀ (us vs : List Nat), (∀ i ∈ us, i ∈ vs) → wipeE (wipeE σ us) vs = wipeE σ vs
  | [], _, _ => rfl
  | u :: us, vs, h => by
    show wipeE ((wipeE σ us).set u .un) vs = _
    rw [wipeE_set _ u .un vs (h u (by simp)), wipeE_sub σ us vs fun i hi => h i (by simp [hi])]
mutual
theorem asgT_wipe {vs : List Nat} : ∀ {t : T} {d : D} {s s' : Env}, asgT t d s = some s' → (∀ i ∈ tSl t, i ∈ vs) → wipeE s' vs = wipeE s vs
  | .nm i, d, s, s', e, h => by
    unfold asgT at e
    split at e
    · cases e; exact wipeE_set s i _ vs (h i (by simp [tSl]))
    · cases e
  | .tp ts, d, s, s', e, h => by
    cases d with
    | tup ds => unfold asgT at e; exact asgTs_wipe e fun i hi => h i (by simpa [tSl] using hi)
    | _ => unfold asgT at e; cases e
theorem asgTs_wipe {vs : List Nat} : ∀ {t : Ts} {d : List D} {s s' : Env}, asgTs t d s = some s' → (∀ i ∈ tsSl t, i ∈ vs) → wipeE s' vs = wipeE s vs
  | .nil, [], s, s', e, h => by unfold asgTs at e; cases e; rfl
  | .nil, _ :: _, s, s', e, h => by unfold asgTs at e; cases e
  | .cons t r, [], s, s', e, h => by unfold asgTs at e; cases e
  | .cons t r, d :: ds, s, s', e, h => by
    unfold asgTs at e
    obtain ⟨s1, e1, e⟩ := Option.bind_eq_some_iff.mp e
    rw [asgTs_wipe e fun i hi => h i (by simp [tsSl, hi]), asgT_wipe e1 fun i hi => h i (by simp [tsSl, hi])]
end
/-- a protected list that no name owns is changed -/
theorem SR.protset {W : Addr → Prop} {ρ : List Addr} {env : Env} {h : Hh} {σ : L2.St} {H : Hp} (s : SR B W ρ env h σ H) {a : Addr} {vs ws : List V} (wa : W a) (na : a ∉ ρ) (n0 : B.H0 a = none) (ha : H a = some (.lst vs))
    (no : ∀ (i : Nat) (l : List D), env[i]? = some (.own l) → σ[i]? ≠ some (some (.ref a))) : SR B W ρ env h σ (upd H a (.lst ws)) := by
  have trk : ∀ b, H b ≠ none → upd H a (.lst ws) b ≠ none := fun b e => by
    by_cases q : b = a
    · rw [q, upd_same]; simp
    · rw [upd_ne q]; exact e
  exact { s with
    val := fun j d e => let ⟨v, p1, p2⟩ := s.val j d e; ⟨v, p1, p2.chg wa ha⟩
    own := fun j k e => by
      obtain ⟨b, us, p1, p2, p3, p4⟩ := s.own j k e
      have nb : b ≠ a := fun z => no j k e (z ▸ p1)
      exact ⟨b, us, p1, by rw [upd_ne nb]; exact p2, p3.chg wa ha, p4⟩
    obj := fun n o' b e1 e2 => by
      have nb : b ≠ a := fun z => na (z ▸ List.mem_of_getElem? e2)
      have := s.obj n o' b e1 e2
      cases o' with
      | lst l =>
        obtain ⟨us, p1, p2⟩ := this
        exact ⟨us, by rw [upd_ne nb]; exact p1, p2.chg wa ha⟩
    wtr := fun b w => trk b (s.wtr b w)
    fr := fun b u e t n => by
      have nb : b ≠ a := fun z => by rw [z, n0] at e; cases e
      rw [upd_ne nb]; exact s.fr b u e t n
    t0 := fun b e => trk b (s.t0 b e)
    kcs := fun c P k => (ups_upd (.inr ⟨_, ha⟩) nt_lst).kc (s.kcs c P k)
    tb := fun P t => (ups_upd (.inr ⟨_, ha⟩) nt_lst).tb (s.tb P t) }
/-- a list that came later is changed -/
theorem Ext.newset {K : PySem.W.Frag} {W W' : Addr → Prop} {ρ ρ' : List Addr} {H H' : Hp} (x : Ext K W ρ H W' ρ' H') {a : Addr} {vs ws : List V} (n : H a = none) (wa : W' a) (ha : H' a = some (.lst vs)) : Ext K W ρ H W' ρ' (upd H' a (.lst ws)) where
  fr := fun b u e t nb => by
    have ne : b ≠ a := fun z => by rw [z, n] at e; cases e
    rw [upd_ne ne]; exact x.fr b u e t nb
  tr := fun b e => by
    by_cases q : b = a
    · rw [q, upd_same]; simp
    · rw [upd_ne q]; exact x.tr b e
  pre := x.pre
  new := x.new
  tp := fun b us e => sqT_chg ha (x.tp b us e)
  ls := fun b us nb r => let ⟨p1, p2⟩ := x.ls b us nb r; ⟨p1, rd_ne (fun z => p1 (z ▸ wa)) p2⟩
  wm := x.wm
  wn := x.wn
  tb := fun P t => (ups_upd (.inr ⟨_, ha⟩) nt_lst).tb (x.tb P t)
def hide (H : Hp) (a : Addr) : Hp := fun b => if b = a then none else H b
theorem hide_ne {H : Hp} {a b : Addr} (h : b ≠ a) : hide H a b = H b := by unfold hide; rw [if_neg h]
theorem hide_self {H : Hp} {a : Addr} : hide H a a = none := by unfold hide; rw [if_pos rfl]
theorem hide_back {H : Hp} {a : Addr} {o : HO} (h : H a = some o) : upd (hide H a) a o = H := by
  funext b
  by_cases e : b = a
  · rw [e, upd_same, h]
  · rw [upd_ne e, hide_ne e]
section
variable {K : PySem.W.Frag} {W : Addr → Prop} {ρ : List Addr} {H : Hp} {a : Addr} {vs : List V}
def lessW (W : Addr → Prop) (a : Addr) : Addr → Prop := fun b => W b ∧ b ≠ a
theorem hide_tp (ha : H a = some (.lst vs)) (b : Addr) (us : List V) (e : SqT K H b us) : SqT K (hide H a) b us := by
  rcases e with (e | ⟨ob, e⟩) | e
  · exact .inl (.inl (by rw [hide_ne (ne_of e ha (by intro z; cases z))]; exact e))
  · exact .inl (.inr ⟨ob, by rw [hide_ne (ne_of e ha (by intro z; cases z))]; exact e⟩)
  · exact .inr e
theorem hide_ls (wa : W a) (b : Addr) (us : List V) (n : ¬ W b) (e : Rd H b (.lst us)) : ¬ lessW W a b ∧ Rd (hide H a) b (.lst us) := by
  have nb : b ≠ a := fun z => n (z ▸ wa)
  refine ⟨fun z => n z.1, ?_⟩
  rcases e with e | ⟨ob, e⟩
  · exact .inl (by rw [hide_ne nb]; exact e)
  · exact .inr ⟨ob, by rw [hide_ne nb]; exact e⟩
theorem Rep.hide (wa : W a) (ha : H a = some (.lst vs)) {v : V} {d : D} (r : Rep K W ρ H v d) : Rep K (lessW W a) ρ (hide H a) v d := r.map (hide_tp ha) (hide_ls wa) fun _ _ h => h
theorem Reps.hide (wa : W a) (ha : H a = some (.lst vs)) {v : List V} {d : List D} (r : Reps K W ρ H v d) : Reps K (lessW W a) ρ (MP.hide H a) v d := r.map (hide_tp ha) (hide_ls wa) fun _ _ h => h
end
theorem ups_hide {H : Hp} {a : Addr} {vs : List V} (ha : H a = some (.lst vs)) : Ups H (MP.hide H a) where
  up := fun b u e t => by
    have nb : b ≠ a := fun z => by
      subst z
      rw [ha] at e
      cases e
      rcases t with ⟨ps, t⟩ | ⟨c, P, t⟩
      · cases t
      · unfold GX.CdO at t; cases t
    rw [hide_ne nb]; exact e
theorem SR.hide {W : Addr → Prop} {ρ : List Addr} {env : Env} {h : Hh} {σ : L2.St} {H : Hp} (s : SR B W ρ env h σ H) {a : Addr} {vs : List V} (wa : W a) (na : a ∉ ρ) (n0 : B.H0 a = none) (ha : H a = some (.lst vs))
    (no : ∀ (i : Nat) (l : List D), env[i]? = some (.own l) → σ[i]? ≠ some (some (.ref a))) : SR B (lessW W a) ρ env h σ (MP.hide H a) where
  len := s.len
  val := fun j d e => let ⟨v, p1, p2⟩ := s.val j d e; ⟨v, p1, p2.hide wa ha⟩
  own := fun j k e => by
    obtain ⟨b, us, p1, p2, p3, p4, p5⟩ := s.own j k e
    have nb : b ≠ a := fun z => no j k e (z ▸ p1)
    exact ⟨b, us, p1, by rw [hide_ne nb]; exact p2, p3.hide wa ha, ⟨p4, nb⟩, p5⟩
  sep := s.sep
  hl := s.hl
  nd := s.nd
  obj := fun n o' b e1 e2 => by
    have nb : b ≠ a := fun z => na (z ▸ List.mem_of_getElem? e2)
    have := s.obj n o' b e1 e2
    cases o' with
    | lst l =>
      obtain ⟨us, p1, p2⟩ := this
      exact ⟨us, by rw [hide_ne nb]; exact p1, p2.hide wa ha⟩
  rw := fun b z => ⟨s.rw b z, fun e => na (e ▸ z)⟩
  wtr := fun b w => by rw [hide_ne w.2]; exact s.wtr b w.1
  fr := fun b u e t n => by
    have nb : b ≠ a := fun z => by rw [z, n0] at e; cases e
    rw [hide_ne nb]; exact s.fr b u e t n
  pre := s.pre
  new := s.new
  w0 := fun b w => ⟨s.w0 b w, fun e => s.w1 b w (e ▸ n0)⟩
  wn := fun b w => s.wn b w.1
  t0 := fun b e => by
    have nb : b ≠ a := fun z => e (z ▸ n0)
    rw [hide_ne nb]; exact s.t0 b e
  w1 := s.w1
  kcs := fun c P k => (ups_hide ha).kc (s.kcs c P k)
  tb := fun P t => (ups_hide ha).tb (s.tb P t)
theorem Ext.hide {K : PySem.W.Frag} {W W' : Addr → Prop} {ρ ρ' : List Addr} {H H' : Hp} (x : Ext K W ρ H W' ρ' H') {a : Addr} {vs : List V} (n : H a = none) (nw : ¬ W a) (wa : W' a) (ha : H' a = some (.lst vs)) : Ext K W ρ H (lessW W' a) ρ' (MP.hide H' a) where
  fr := fun b u e t nb => by
    have ne : b ≠ a := fun z => by rw [z, n] at e; cases e
    rw [hide_ne ne]; exact x.fr b u e t nb
  tr := fun b e => by
    have ne : b ≠ a := fun z => e (z ▸ n)
    rw [hide_ne ne]; exact x.tr b e
  pre := x.pre
  new := x.new
  tp := fun b us e => hide_tp ha b us (x.tp b us e)
  ls := fun b us nb r => let ⟨p1, p2⟩ := x.ls b us nb r; hide_ls wa b us p1 p2
  wm := fun b w => ⟨x.wm b w, fun e => nw (e ▸ w)⟩
  wn := fun b w => x.wn b w.1
  tb := fun P t => (ups_hide ha).tb (x.tb P t)
end
end MP

/-! MP: list comprehensions. -/
namespace MP
open PySem
open PySem.Spec
open PyProof.Rows
open L2
section
variable {c : Ct} {Θ : Addr → Prop} {C : Cfg} {B : Bx} {X : Cx} {pos : Pos}
theorem evE_comp (C : Cfg) (vs : List Nat) (elt : E) (t : T) (src : Src) (ifs : Oe) (s : Env) (h : Hh) : evE C (.comp vs elt t src ifs) s h = (evSrc C src s h).bind fun p =>
      (compL (asgT t) (fun s h => evIf C ifs s h) (fun s h => evE C elt s h) (wipeE s vs) p.1 p.2).map fun q => (.lst q.1, q.2) := by
  rw [evE]
theorem compL_cons {tg : D → Env → Option Env} {tst : Env → Hh → Option (Bool × Hh)} {elt : Env → Hh → Option (D × Hh)} {s : Env} {d : D} {r : List D} {h : Hh} {z : List D × Hh} (e : compL tg tst elt s (d :: r) h = some z) :
    ∃ s1 b h1, tg d s = some s1 ∧ tst s1 h = some (b, h1) ∧ (if b = true then ∃ x h2 y, elt s1 h1 = some (x, h2) ∧ compL tg tst elt s r h2 = some (y, z.2) ∧ z.1 = x :: y ∧ y.length < most else compL tg tst elt s r h1 = some z) := by
  unfold compL at e
  obtain ⟨s1, e1, e⟩ := Option.bind_eq_some_iff.mp e
  obtain ⟨⟨b, h1⟩, e2, e⟩ := Option.bind_eq_some_iff.mp e
  refine ⟨s1, b, h1, e1, e2, ?_⟩
  cases b with
  | true =>
    rw [if_pos rfl]
    simp only at e
    obtain ⟨⟨x, h2⟩, e3, e⟩ := Option.bind_eq_some_iff.mp e
    obtain ⟨⟨y, h3⟩, e4, e⟩ := Option.bind_eq_some_iff.mp e
    simp only at e
    split at e
    · rename_i hl
      cases e
      exact ⟨x, h2, y, e3, e4, rfl, hl⟩
    · cases e
  | false => rw [if_neg (by decide)]; exact e
/-- the invariant of the loop -/
def cI (C : Cfg) (B : Bx) (t : T) (ifs : Oe) (elt : E) (vs : List Nat) (env : Env) (σ : L2.St) (W1 : Addr → Prop) (ρ1 : List Addr) (H1 : Hp) (Dl : Addr) (items fin : List D) (h' : Hh) (i m : Nat) (H : Hp) : Prop :=
  m = items.length - i ∧ i ≤ items.length ∧ ∃ W ρ hh acc accV rest, SR B W ρ (wipeE env vs) hh (wipe σ vs) H ∧ Ext B.K W1 ρ1 H1 W ρ H ∧ H Dl = some (.lst accV) ∧ Reps B.K W ρ H accV acc ∧ W Dl ∧ Dl ∉ ρ ∧
    compL (asgT t) (fun s h => evIf C ifs s h) (fun s h => evE C elt s h) (wipeE env vs) (items.drop i) hh = some (rest, h') ∧ acc ++ rest = fin ∧ (rest = [] ∨ fin.length ≤ most)
theorem lc_sound (hT : ∀ P, Θ P → ∃ c, B.kc c P) {w : Bool} {vs : List Nat} {elt : E} {t : T} {src : Src} {ifs : Oe} (hv : ∀ i ∈ tSl t, i ∈ vs) : ∀ σ H Q, tEvF C B (.comp vs elt t src ifs) σ H Q → tLc (tSrc C B true src) (tG B t) (tEvIf C B ifs) (tEv C B elt) vs σ H Q := by
  rintro σ H Q ⟨W, ρ, env, h, fin0, h0, S, e, p⟩
  rw [evE_comp] at e
  obtain ⟨⟨items, h1⟩, e1, e⟩ := Option.bind_eq_some_iff.mp e
  obtain ⟨⟨fin, h'⟩, e2, e⟩ := Option.map_eq_some_iff.mp e
  cases e
  refine ⟨W, ρ, env, h, items, h1, S, e1, fun J H1 W1 ρ1 S1 X1 G => ?_⟩
  intro Dl hD
  have n0 : B.H0 Dl = none := S1.none0 hD
  have nw1 : ¬ W1 Dl := S1.notW hD
  -- no name owns it
  have no : ∀ (i : Nat) (l : List D), (wipeE env vs)[i]? = some (.own l) → (wipe σ vs)[i]? ≠ some (some (.ref Dl)) := fun i l e3 e4 => by
    obtain ⟨a, us, q1, q2, _⟩ := (S1.wipe vs).own i l e3
    rw [e4] at q1; cases q1
    rw [hD] at q2; cases q2
  have no1 : ∀ (i : Nat) (l : List D), env[i]? = some (.own l) → σ[i]? ≠ some (some (.ref Dl)) := fun i l e3 e4 => by
    obtain ⟨a, us, q1, q2, _⟩ := S1.own i l e3
    rw [e4] at q1; cases q1
    rw [hD] at q2; cases q2
  refine ⟨cI C B t ifs elt vs env σ W1 ρ1 H1 Dl items fin h', ⟨items.length, by simp, Nat.zero_le _, addW W1 Dl, ρ1, h1, [], [], fin, (S1.wipe vs).prot hD, (addW_new hD).trans ?_, upd_same, .nil, .inr rfl, fun z => nw1 (S1.rw _ z), by simpa using e2, rfl, ?_⟩, ?_⟩
  · exact .laid hD
  · -- length
    have key : ∀ {items : List D} {h : Hh} {r : List D × Hh}, compL (asgT t) (fun s h => evIf C ifs s h) (fun s h => evE C elt s h) (wipeE env vs) items h = some r → r.1 = [] ∨ r.1.length ≤ most := by
      intro items
      induction items with
      | nil => intro h r e; unfold compL at e; cases e; exact .inl rfl
      | cons d r ih =>
        intro h z e
        obtain ⟨s1, b, h1, _, _, e⟩ := compL_cons e
        cases b with
        | true =>
          rw [if_pos rfl] at e
          obtain ⟨x, h2, y, _, _, e5, hl⟩ := e
          rw [e5]
          exact .inr hl
        | false => rw [if_neg (by decide)] at e; exact ih e
    exact key e2
  rintro i m H2 ⟨rfl, hi, W2, ρ2, hh, acc, accV, rest, S2, X2, hDl, RA, wD, nD, ec, ef, hlen⟩
  have XS : ExtS B.K (fun a => true = true ∧ H1 a ≠ none ∧ a ∉ ρ1) W1 ρ1 H1 W2 ρ2 H2 := X2.s fun a pa => pa.2.2
  by_cases hlt : i < items.length
  · right
    refine ⟨G.go W2 ρ2 H2 XS i hlt, fun H' => cI C B t ifs elt vs env σ W1 ρ1 H1 Dl items fin h' (i + 1) (items.length - (i + 1)) H', fun H' z => ⟨_, by omega, z⟩, fun x H3 y => ?_⟩
    have hd : items[i]? = some items[i] := List.getElem?_eq_getElem hlt
    obtain ⟨ch, Rx⟩ := G.yl W2 ρ2 H2 XS i x H3 _ hd y
    -- the heap after the item
    have st : SR B W2 ρ2 (wipeE env vs) hh (wipe σ vs) H3 ∧ Ext B.K W2 ρ2 H2 W2 ρ2 H3 := by
      rcases ch with rfl | ⟨T, us, hT, rfl⟩
      · exact ⟨S2, .refl⟩
      · exact ⟨S2.laid hT, .laid hT⟩
    obtain ⟨S3, X3⟩ := st
    have hDl3 : H3 Dl = some (.lst accV) := X3.fr _ _ hDl nt_lst nD
    have RA3 := RA.ext X3
    rw [List.drop_eq_getElem_cons hlt] at ec
    obtain ⟨s1, b, hb, c1, c2, c3⟩ := compL_cons ec
    refine ⟨W2, ρ2, wipeE env vs, hh, items[i], s1, S3, Rx, c1, fun σ2 S4 wp => ?_⟩
    have w1 : wipe σ2 vs = wipe (wipe σ vs) vs := wp vs hv
    have w2 : wipe (wipe σ vs) vs = wipe σ vs := wipe_sub σ vs vs fun i hi => hi
    refine ⟨w1.trans w2, W2, ρ2, s1, hh, b, hb, S4, c2, fun H5 W5 ρ5 S5 X5 => ?_⟩
    have we : wipeE s1 vs = wipeE env vs := (asgT_wipe c1 hv).trans (wipeE_sub env vs vs fun i hi => hi)
    have back : ∀ {W' : Addr → Prop} {ρ' : List Addr} {hh' : Hh} {H' : Hp}, SR B W' ρ' s1 hh' σ2 H' → SR B W' ρ' (wipeE env vs) hh' (wipe σ vs) H' := fun z => by
      have := z.wipe vs
      rw [we, w1, w2] at this
      exact this
    have hDl5 : H5 Dl = some (.lst accV) := X5.fr _ _ hDl3 nt_lst nD
    have nD5 : Dl ∉ ρ5 := fun z => (X5.new _ z).elim nD fun q => by rw [hDl3] at q; cases q
    cases b with
    | false =>
      rw [if_neg (by simp)] at c3
      show cI C B t ifs elt vs env σ W1 ρ1 H1 Dl items fin h' (i + 1) (items.length - (i + 1)) H5
      exact ⟨rfl, hlt, W5, ρ5, hb, acc, accV, rest, back S5, (X2.trans X3).trans X5, hDl5, RA3.ext X5, X5.wm _ (X3.wm _ wD), nD5, c3, ef, hlen⟩
    | true =>
      rw [if_pos rfl] at c3
      show tEv C B elt σ2 H5 fun y H4 => ∃ acc, H4 Dl = some (.lst acc) ∧ acc.length < sizeLine ∧ cI C B t ifs elt vs env σ W1 ρ1 H1 Dl items fin h' (i + 1) (items.length - (i + 1)) (upd H4 Dl (.lst (acc ++ [y])))
      obtain ⟨xv, h6, yv, c4, c5, c6, c7⟩ := c3
      simp only at c6
      refine ⟨W5, ρ5, s1, hb, xv, h6, S5, c4, fun v H6 W6 ρ6 S6 X6 R6 => ?_⟩
      have hDl6 : H6 Dl = some (.lst accV) := X6.fr _ _ hDl5 nt_lst nD5
      have nD6 : Dl ∉ ρ6 := fun z => (X6.new _ z).elim nD5 fun q => by rw [hDl5] at q; cases q
      have wD6 : W6 Dl := X6.wm _ (X5.wm _ (X3.wm _ wD))
      have RA6 := (RA3.ext X5).ext X6
      have hfin : acc.length < fin.length ∧ fin.length ≤ most := by
        rcases hlen with z | z
        · rw [c6] at z; cases z
        · refine ⟨?_, z⟩
          rw [← ef, c6]; simp
      refine ⟨accV, hDl6, ?_, ?_⟩
      · rw [RA6.len]
        exact Nat.lt_of_lt_of_le hfin.1 (Nat.le_trans hfin.2 (by decide))
      refine ⟨rfl, hlt, W6, ρ6, h6, acc ++ [xv], accV ++ [v], yv, (back S6).protset wD6 nD6 n0 hDl6 no, (((X2.trans X3).trans X5).trans X6).newset hD wD6 hDl6, upd_same, ?_, wD6, nD6, c5, ?_, .inr hfin.2⟩
      · exact ((RA6.app (.cons R6 .nil)).chg wD6 hDl6)
      · rw [← ef, c6]; simp
  · left
    have hi' : i = items.length := by omega
    subst hi'
    have stop := G.stop W2 ρ2 H2 XS
    refine ⟨stop, ?_⟩
    rw [List.drop_length] at ec
    unfold compL at ec
    cases ec
    rw [List.append_nil] at ef
    subst ef
    -- back to the def's names
    have S5 := (S1.after (S2.cr hT) ⟨X2, X2.wm, X2.wn⟩)
    have S6 := S5.hide wD nD n0 hDl no1
    have X6 := X2.hide hD nw1 wD hDl
    have := p Dl accV _ _ ρ2 S6 (X1.trans X6) hide_self (RA.hide wD hDl)
    rw [hide_back hDl] at this
    exact this
/-- the surroundings of a comprehension's block -/
theorem XOk.blk (hx : XOk Θ c C X) {s : Shared} {H : Hp} {scope : Scope} {A : Addr} {cl : List (Str × Addr)} {fp : List Addr} {vs : List Nat} : XOk Θ (blkCt c scope vs) C (X.blk s H scope (compEnvC scope cl A X.env) fp) where
  hN := hx.hN
  nd := hx.nd
  sc := by
    show relabel scope X.env = relS scope c.sc
    rw [← hx.sc]; rfl
  calm := hx.calm
  un := hx.un
  free := hx.free
  bf := hx.bf
  glob := hx.glob
  st := fun x h => by
    obtain ⟨h1, h2⟩ := List.mem_filter.mp h
    have sc : (relabel scope X.env).names = (relS scope c.sc).names := by rw [← hx.sc]; rfl
    split at h2
    · rename_i e
      have k : (relabel scope X.env).names.lookup x = some .local := lookup_relS_keep (by decide) e
      exact ⟨.inl k, .inr k⟩
    · rename_i e
      have k : (relabel scope X.env).names.lookup x = some .cell := lookup_relS_keep (by decide) e
      refine ⟨.inr k, .inl ?_⟩
      show (scope.names.lookup x == some .cell) = true
      rw [e]; decide
    · cases h2
  fn := hx.fn
  rm := hx.rm
  bm := hx.bm
end
end MP

/-! MP: generator expressions in all, any. -/
namespace MP
open PySem
open PySem.Spec
open PyProof.Rows
open L2
section
variable {c : Ct} {Θ : Addr → Prop} {C : Cfg} {B : Bx} {X : Cx} {pos : Pos}
theorem evE_gen (C : Cfg) (k : Bool) (vs : List Nat) (elt : E) (t : T) (src : Src) (ifs : Oe) (s : Env) (h : Hh) : evE C (.gen k vs elt t src ifs) s h = (evSrc C src s h).bind fun p =>
      (allL k (asgT t) (fun s h => evIf C ifs s h) (fun s h => evE C elt s h) (wipeE s vs) p.1 p.2).map fun q => (.bl q.1, q.2) := by
  rw [evE]
theorem allL_cons {k : Bool} {tg : D → Env → Option Env} {tst : Env → Hh → Option (Bool × Hh)} {elt : Env → Hh → Option (D × Hh)} {s : Env} {d : D} {r : List D} {h : Hh} {z : Bool × Hh} (e : allL k tg tst elt s (d :: r) h = some z) :
    ∃ s1 b h1, tg d s = some s1 ∧ tst s1 h = some (b, h1) ∧ (if b = true then ∃ x h2, elt s1 h1 = some (.bl x, h2) ∧ (if x = k then allL k tg tst elt s r h2 = some z else z = (x, h2)) else allL k tg tst elt s r h1 = some z) := by
  unfold allL at e
  obtain ⟨s1, e1, e⟩ := Option.bind_eq_some_iff.mp e
  obtain ⟨⟨b, h1⟩, e2, e⟩ := Option.bind_eq_some_iff.mp e
  refine ⟨s1, b, h1, e1, e2, ?_⟩
  cases b with
  | true =>
    rw [if_pos rfl]
    simp only at e
    obtain ⟨⟨x, h2⟩, e3, e⟩ := Option.bind_eq_some_iff.mp e
    obtain ⟨y, e4, e⟩ := Option.bind_eq_some_iff.mp e
    simp only at e e4
    rw [isB_eq e4] at e3
    refine ⟨y, h2, e3, ?_⟩
    split at e
    · rename_i hk; rw [if_pos hk]; exact e
    · rename_i hk; rw [if_neg hk]; cases e; rfl
  | false => rw [if_neg (by decide)]; exact e
/-- the invariant of the turns -/
def gI (C : Cfg) (B : Bx) (k : Bool) (t : T) (ifs : Oe) (elt : E) (vs : List Nat) (env : Env) (σ : L2.St) (W1 : Addr → Prop) (ρ1 : List Addr) (H1 : Hp) (items : List D) (r : Bool × Hh) (i m : Nat) (H : Hp) : Prop :=
  m = items.length - i ∧ i ≤ items.length ∧ ∃ W ρ hh, SR B W ρ (wipeE env vs) hh (wipe σ vs) H ∧ Ext B.K W1 ρ1 H1 W ρ H ∧ allL k (asgT t) (fun s h => evIf C ifs s h) (fun s h => evE C elt s h) (wipeE env vs) (items.drop i) hh = some r
theorem gen_sound (hK : BK Θ B X) {k : Bool} {vs : List Nat} {elt : E} {t : T} {src : Src} {ifs : Oe} (hv : ∀ i ∈ tSl t, i ∈ vs) : ∀ σ H Q, tEv C B (.gen k vs elt t src ifs) σ H Q →
    GX.tGen X.base X.env.code k (tSrc C B true src) (fun c' P' => tG (B.add c' P') t) (fun c' P' => tEvIf C (B.add c' P') ifs) (fun c' P' => tEv C (B.add c' P') elt) vs σ H Q := by
  rintro σ H Q ⟨W, ρ, env, h, fin0, h0, S, e, p⟩
  rw [evE_gen] at e
  obtain ⟨⟨items, h1⟩, e1, e⟩ := Option.bind_eq_some_iff.mp e
  obtain ⟨⟨r, h'⟩, e2, e⟩ := Option.map_eq_some_iff.mp e
  cases e
  refine ⟨W, ρ, env, h, items, h1, S, e1, fun J H1 W1 ρ1 S1 X1 G => ?_⟩
  refine ⟨?_, fun c' P' H2 xt hc' hP' => ?_⟩
  · obtain ⟨c, P, q1, q2⟩ := hK.code
    exact ⟨c, P, q1, hK.base ▸ S1.kcs c P q2⟩
  have hT : ∀ P, Θ P → ∃ c, (B.add c' P').kc c P := fun P z => let ⟨c, q⟩ := hK.T P z; ⟨c, .inl q⟩
  have Sc : SR (B.add c' P') W1 ρ1 (wipeE env vs) h1 (wipe σ vs) H2 := ((S1.codes xt).wipe vs).add ⟨.inr hc', hP'⟩
  refine ⟨gI C (B.add c' P') k t ifs elt vs env σ W1 ρ1 H1 items (r, h'), ⟨items.length, by simp, Nat.zero_le _, W1, ρ1, h1, Sc, .codes xt, by simpa using e2⟩, ?_⟩
  -- back to the def's names
  have out : ∀ {W2 : Addr → Prop} {ρ2 : List Addr} {s2 : Env} {hh : Hh} {σ2 : L2.St} {H3 : Hp}, SR (B.add c' P') W2 ρ2 s2 hh σ2 H3 → Ext B.K W1 ρ1 H1 W2 ρ2 H3 → hh = h' → ∀ b, b = r → Q (.bl b) H3 := fun {W2 ρ2 s2 hh σ2 H3} S2 X2 e b eb => by
    subst e eb
    have S5 := (S1.after (B := B) (T := Θ) ⟨S2.hl, S2.nd, S2.obj, S2.rw, S2.wtr, fun P t => let ⟨_, q⟩ := hT P t; (S2.kcs _ _ q).2⟩ ⟨X2, X2.wm, X2.wn⟩)
    exact p _ _ _ _ S5 (X1.trans X2) (.bl _)
  rintro i m H2 ⟨rfl, hi, W2, ρ2, hh, S2, X2, ec⟩
  have XS : ExtS B.K (fun a => true = true ∧ H1 a ≠ none ∧ a ∉ ρ1) W1 ρ1 H1 W2 ρ2 H2 := X2.s fun a pa => pa.2.2
  by_cases hlt : i < items.length
  · right
    refine ⟨G.go W2 ρ2 H2 XS i hlt, fun H' => gI C (B.add c' P') k t ifs elt vs env σ W1 ρ1 H1 items (r, h') (i + 1) (items.length - (i + 1)) H', fun H' z => ⟨_, by omega, z⟩, fun x H3 y => ?_⟩
    have hd : items[i]? = some items[i] := List.getElem?_eq_getElem hlt
    obtain ⟨ch, Rx⟩ := G.yl W2 ρ2 H2 XS i x H3 _ hd y
    have st : SR (B.add c' P') W2 ρ2 (wipeE env vs) hh (wipe σ vs) H3 ∧ Ext B.K W2 ρ2 H2 W2 ρ2 H3 := by
      rcases ch with rfl | ⟨T, us, hT, rfl⟩
      · exact ⟨S2, .refl⟩
      · exact ⟨S2.laid hT, .laid hT⟩
    obtain ⟨S3, X3⟩ := st
    rw [List.drop_eq_getElem_cons hlt] at ec
    obtain ⟨s1, b, hb, c1, c2, c3⟩ := allL_cons ec
    refine ⟨W2, ρ2, wipeE env vs, hh, items[i], s1, S3, Rx, c1, fun σ2 S4 wp => ?_⟩
    have w1 : wipe σ2 vs = wipe (wipe σ vs) vs := wp vs hv
    have w2 : wipe (wipe σ vs) vs = wipe σ vs := wipe_sub σ vs vs fun i hi => hi
    refine ⟨w1.trans w2, W2, ρ2, s1, hh, b, hb, S4, c2, fun H5 W5 ρ5 S5 X5 => ?_⟩
    have we : wipeE s1 vs = wipeE env vs := (asgT_wipe c1 hv).trans (wipeE_sub env vs vs fun i hi => hi)
    have back : ∀ {W' : Addr → Prop} {ρ' : List Addr} {hh' : Hh} {H' : Hp}, SR (B.add c' P') W' ρ' s1 hh' σ2 H' → SR (B.add c' P') W' ρ' (wipeE env vs) hh' (wipe σ vs) H' := fun z => by
      have := z.wipe vs
      rw [we, w1, w2] at this
      exact this
    have X35 : Ext B.K W1 ρ1 H1 W5 ρ5 H5 := (X2.trans X3).trans X5
    cases b with
    | false =>
      rw [if_neg (by simp)] at c3
      show gI C (B.add c' P') k t ifs elt vs env σ W1 ρ1 H1 items (r, h') (i + 1) (items.length - (i + 1)) H5
      exact ⟨rfl, hlt, W5, ρ5, hb, back S5, X35, c3⟩
    | true =>
      rw [if_pos rfl] at c3
      show tEv C (B.add c' P') elt σ2 H5 fun y H4 => ∃ b', y = .bl b' ∧ if b' = k then gI C (B.add c' P') k t ifs elt vs env σ W1 ρ1 H1 items (r, h') (i + 1) (items.length - (i + 1)) H4 else Q (.bl b') H4
      obtain ⟨x, h2, c4, c5⟩ := c3
      refine ⟨W5, ρ5, s1, hb, .bl x, h2, S5, c4, fun v H6 W6 ρ6 S6 X6 R6 => ?_⟩
      cases R6
      refine ⟨x, rfl, ?_⟩
      have X36 : Ext B.K W1 ρ1 H1 W6 ρ6 H6 := X35.trans X6
      split at c5
      · rename_i hk
        rw [if_pos hk]
        exact ⟨rfl, hlt, W6, ρ6, h2, back S6, X36, c5⟩
      · rename_i hk
        rw [if_neg hk]
        cases c5
        exact out S6 X36 rfl _ rfl
  · left
    have hi' : i = items.length := by omega
    subst hi'
    refine ⟨G.stop W2 ρ2 H2 XS, ?_⟩
    rw [List.drop_length] at ec
    unfold allL at ec
    cases ec
    exact out S2 X2 rfl _ rfl
theorem BK.blk (hK : BK Θ B X) {s : Shared} {H : Hp} {scope : Scope} {A : Addr} {cl : List (Str × Addr)} {fp : List Addr} : BK Θ B (X.blk s H scope (compEnvC scope cl A X.env) fp) :=
  ⟨hK.K, hK.base, hK.T, hK.code⟩
theorem BK.gen (hK : BK Θ B X) {s : Shared} {H : Hp} {scope : Scope} {A : Around} {c' P' : Addr} {cenv : PySem.Env} {fp : List Addr} {pn : List (Addr × Obj)} (ge : GX.GenE X scope (.ref c') cenv) : BK Θ (B.add c' P') (GX.gen X s H A scope cenv fp pn) :=
  ⟨hK.K, hK.base, fun P t => let ⟨c, q⟩ := hK.T P t; ⟨c, .inl q⟩, c', P', ge.code, .inr ⟨rfl, rfl⟩⟩
theorem Room.gen {k : Nat} {A : Around} {env : PySem.Env} (r : Room (k + 4) A) : Room k (A.in1.in1.deeper env) :=
  ((show Room (k + 3) A from r.mono (by omega)).in1.in1).deeper env
/-- the surroundings of a generator's parts -/
theorem XOk.gen (hx : XOk Θ c C X) (hs : 1 ≤ c.sl) {s : Shared} {H : Hp} {scope : Scope} {cd : Value} {cenv : PySem.Env} {fp : List Addr} {pn : List (Addr × Obj)} {vs : List Nat} (ge : GX.GenE X scope cd cenv) :
    XOk Θ (genCt c scope vs) C (GX.gen X s H (X.A.in1.in1.deeper cenv) scope cenv fp pn) where
  hN := hx.hN
  nd := hx.nd
  sc := ge.sc
  calm := hx.calm
  un := (show Room (4 * (c.sl - 1)) (X.A.in1.in1.deeper cenv) from Room.gen (hx.rm.mono (by omega))).units
  free := hx.free
  bf := hx.bf
  glob := hx.glob
  st := fun x h => by
    obtain ⟨h1, h2⟩ := List.mem_filter.mp h
    show Loc cenv.scope x ∧ _
    rw [show (GX.gen X s H (X.A.in1.in1.deeper cenv) scope cenv fp pn).env.scope = scope from ge.sc]
    split at h2
    · rename_i e
      exact ⟨.inl e, .inr e⟩
    · rename_i e
      refine ⟨.inr e, .inl ?_⟩
      show (scope.names.lookup x == some .cell) = true
      rw [e]; decide
    · cases h2
  fn := fun f x n e => by
    obtain ⟨k, addr, fd, ps, F, hr, r⟩ := hx.fn f x n e
    exact ⟨k, addr, fd, ps, F, Room.gen (hr.mono (by show k + 4 * (c.sl - 1) + 4 ≤ _; omega)), r⟩
  rm := Room.gen (hx.rm.mono (by show 4 * (c.sl - 1) + 4 ≤ _; omega))
  bm := hx.bm
theorem genFold_ok {e : Expr} {env : PySem.Env} (h1 : noList e = true) (h2 : ∀ x, foldedSetIterable e env x = pure x) : ∀ x, genFold e env x = pure x := by
  intro x
  cases e <;> first | exact h2 x | (simp [noList] at h1)
theorem s_gen (hx : XOk Θ c C X) (hK : BK Θ B X) {k : Bool} {vs : List Nat} {elt : E} {t : T} {src : Src} {ifs : Oe} {tg' it' elt' : Expr} {ifs' : List Expr} {scope : Scope} {p gp : Pos} (hg : okGl c (anName k) = true) (hf : anName k ∈ c.free) (hs : 1 ≤ c.sl)
    (hb : genC c.N c.sc scope (ownP c.N vs) = true) (hv : ∀ i ∈ tSl t, i ∈ vs) (ho : (ownP c.N vs).map (·.2) = vs) (si : PI X tg' it' (tSrc C B true src)) (sf : ∀ x, genFold it' X.env x = pure x)
    (pg : GX.Parts X scope fun c' P' Y => PG Y tg' (tG (B.add c' P') t)) (pt : GX.Parts X scope fun c' P' Y => PTs Y ifs' (tEvIf C (B.add c' P') ifs)) (pe : GX.Parts X scope fun c' P' Y => PE Y elt' (tEv C (B.add c' P') elt)) :
    PE X (.Call (.Name (anName k) p) [.GeneratorExp elt' [⟨tg', it', ifs', 0⟩] scope gp] [] pos) (tEv C B (.gen k vs elt t src ifs)) := by
  unfold genC at hb
  simp only [Bool.and_eq_true, Bool.not_eq_true'] at hb
  obtain ⟨b1, b2, b3⟩ := hb
  have hN : X.N = c.N := hx.hN
  have bk : BlkOk X.N X.env.scope scope (ownP c.N vs) := by rw [hN, hx.sc]; exact blkOk_by b1
  have h0 : scope.names.lookup (".0" : Str) = some NameKind.local := by
    unfold isLoc at b3
    split at b3
    · assumption
    · cases b3
  have gl := (glOk hx hg).1
  have hr : Room 4 X.A := hx.rm.mono (by omega)
  cases k with
  | true =>
    refine (GX.pe_all hr hx.calm (by rw [hN]; exact hx.nd) hx.bm gl (hx.free _ hf) si bk b2 h0 pg pt pe sf).mono fun σ H Q h => ?_
    rw [ho]
    exact gen_sound hK hv σ H Q h
  | false =>
    refine (GX.pe_any hr hx.calm (by rw [hN]; exact hx.nd) hx.bm gl (hx.free _ hf) si bk b2 h0 pg pt pe sf).mono fun σ H Q h => ?_
    rw [ho]
    exact gen_sound hK hv σ H Q h
end
end MP

/-! MP: every checked expression is what is evaluated. -/
namespace MP
open PySem
open PySem.Spec
open PyProof.Rows
open L2
structure OkE (C : Cfg) (B : Bx) (c : Ct) (X : Cx) (m : E) (e : Expr) : Prop where
  w : chk c false m e = true → PE X e (tEvW C B m)
  s : chk c false m e = true → isOwn m = false → PE X e (tEv C B m)
  f : chk c false m e = true → isFresh m = true → PE X e (tEvF C B m)
  t : chk c true m e = true → PT X e (tTe C B m)
structure OkEs (C : Cfg) (B : Bx) (c : Ct) (X : Cx) (m : Es) (e : List Expr) : Prop where
  s : chkEs c false true m e = true → PA X e (tEvs C B m)
  w : chkEs c false false m e = true → PA X e (tEvsW C B m)
  b : ∀ k pos, chkEs c false true m e = true → e ≠ [] → PE X (.BoolOp (opK k) e pos) (tEvB C B k m)
  t : ∀ k pos, chkEs c true true m e = true → e ≠ [] → PW X (.BoolOp (opK k) e pos) (tTeB C B k m)
  n : ∀ t s, chkEs c t s m e = true → noStars e = true ∧ esLen m = e.length
section
variable {c : Ct} {Θ : Addr → Prop} {C : Cfg} {B : Bx} {X : Cx} {pos : Pos} {m : E} {e : Expr}
theorem OkE.of (h : chk c false m e = true → PE X e (tEv C B m)) (hf : isFresh m = false) (ht : chk c true m e = true → chk c false m e = true ∧ plainT e = true) : OkE C B c X m e :=
  ⟨fun q => weak (h q), fun q _ => h q, fun q z => (by rw [hf] at z; cases z), fun q => tst (h (ht q).1) (ht q).2⟩
theorem OkE.no (h : ∀ t, chk c t m e = false) : OkE C B c X m e :=
  ⟨fun q => absurd q (by rw [h]; simp), fun q => absurd q (by rw [h]; simp), fun q => absurd q (by rw [h]; simp), fun q => absurd q (by rw [h]; simp)⟩
theorem OkE.of2 (h : chk c false m e = true → PE X e (tEv C B m)) (hf : isFresh m = false) (ht : chk c true m e = true → PT X e (tTe C B m)) : OkE C B c X m e :=
  ⟨fun q => weak (h q), fun q _ => h q, fun q z => (by rw [hf] at z; cases z), ht⟩
theorem OkE.fresh (h : chk c false m e = true → PE X e (tEvF C B m)) (hl : ∀ s h r, evE C m s h = some r → ∃ l, r.1 = .lst l) : OkE C B c X m e :=
  ⟨fun q => weak (strong (h q) hl), fun q _ => strong (h q) hl, fun q _ => h q, fun q => ⟨fun pins s σ H Q I ⟨W, ρ, env, hh, r, h', S, ev, p⟩ => by
    obtain ⟨l, z⟩ := hl _ _ _ ev
    cases z⟩⟩
theorem isl_comp {vs : List Nat} {elt : E} {t : T} {src : Src} {ifs : Oe} {s : Env} {h : Hh} {r : D × Hh} (ev : evE C (.comp vs elt t src ifs) s h = some r) : ∃ l, r.1 = .lst l := by
  rw [evE_comp] at ev
  obtain ⟨q, e1, ev⟩ := Option.bind_eq_some_iff.mp ev
  obtain ⟨r2, e2, ev⟩ := Option.map_eq_some_iff.mp ev
  cases ev
  exact ⟨_, rfl⟩
theorem OkE.ofX (h : chk c false m e = true → PE X e (tEvX C B m)) (ht : chk c true m e = true → chk c false m e = true ∧ plainT e = true) : OkE C B c X m e :=
  ⟨fun q => weak (x_s (h q)), fun q _ => x_s (h q), fun q _ => x_f (h q), fun q => tst (x_s (h (ht q).1)) (ht q).2⟩
/-- the reading of tests is one of values -/
theorem pt_bool {t : TT} {o : BoolOp} {es : List Expr} (h : PW X (.BoolOp o es pos) t) : PT X (.BoolOp o es pos) t := h.pt
end
theorem ownP_snd {N : List Str} : ∀ {vs : List Nat}, vs.length = (ownP N vs).length → (ownP N vs).map (·.2) = vs := by
  intro vs
  induction vs with
  | nil => intro _; rfl
  | cons v r ih =>
    intro hl
    unfold ownP at hl ⊢ ih
    have hle : (r.filterMap fun i => (N[i]?).map fun x => (x, i)).length ≤ r.length := List.length_filterMap_le _ _
    cases hv : N[v]? with
    | none =>
      rw [List.filterMap_cons_none (by rw [hv]; rfl)] at hl
      simp at hl
      omega
    | some y =>
      rw [List.filterMap_cons_some (by rw [hv]; rfl)] at hl ⊢
      simp at hl
      rw [List.map_cons, ih hl]
mutual
theorem ok_e {Θ : Addr → Prop} (C : Cfg) : ∀ (m : E) (c : Ct) (X : Cx) (B : Bx), XOk Θ c C X → BK Θ B X → ∀ e, OkE C B c X m e
  | .var i, c, X, B, hx, hK, e => by
    refine .of (fun q => ?_) rfl (fun q => ?_) <;> (unfold chk at q; simp only [Bool.and_eq_true] at q)
    · replace q := q.2
      cases e with
      | Name x p => exact s_var hx q
      | _ => simp at q
    · refine ⟨by unfold chk; simp [q.2], by simpa using q.1⟩
  | .own i, c, X, B, hx, hK, e => by
    refine ⟨fun q => ?_, fun _ z => (by cases z), fun _ z => (by cases z), fun q => ⟨fun pins s σ H Q I ⟨W, ρ, env, hh, r, h', S, ev, p⟩ => ?_⟩⟩
    · unfold chk at q
      simp only [Bool.and_eq_true] at q
      replace q := q.2
      cases e with
      | Name x p => exact s_own hx q
      | _ => simp at q
    · unfold evE at ev
      split at ev <;> cases ev
  | .gl x d, c, X, B, hx, hK, e => by
    refine .of (fun q => ?_) rfl (fun q => ?_) <;> (unfold chk at q; simp only [Bool.and_eq_true] at q)
    · replace q := q.2
      cases e with
      | Name y p =>
        simp only
                                                                    [Bool.and_eq_true, decide_eq_true_eq]
                                                                    at q
        obtain ⟨rfl, q1, q2⟩ := q
        exact s_gl hx hK q1 q2
      | _ => simp at q
    · refine ⟨by unfold chk; simp [q.2], by simpa using q.1⟩
  | .lit d, c, X, B, hx, hK, e => by
    refine .of (fun q => ?_) rfl (fun q => ?_) <;> (unfold chk at q; simp only [Bool.and_eq_true] at q)
    · replace q := q.2
      cases e with
      | Constant k j p => exact s_lit q
      | _ => simp at q
    · refine ⟨by unfold chk; simp only [q.2]; rfl, by simpa using q.1⟩
  | .tup es, c, X, B, hx, hK, e => by
    refine .of (fun q => ?_) rfl (fun q => ?_) <;> (unfold chk at q; simp only [Bool.and_eq_true] at q)
    · replace q := q.2
      cases e with
      | Tuple es' k p => exact s_tup ((ok_es C es c X B hx hK es').s q)
      | _ => simp at q
    · refine ⟨by unfold chk; simp [q.2], by simpa using q.1⟩
  | .lst es, c, X, B, hx, hK, e => by
    refine .fresh (fun q => ?_) fun s h r ev => isl_lst ev
    unfold chk at q
    simp only [Bool.and_eq_true] at q
    replace q := q.2
    cases e with
    | List es' k => exact f_lst ((ok_es C es c X B hx hK es').s q)
    | _ => simp at q
  | .bin o a b, c, X, B, hx, hK, e => by
    refine .ofX (fun q => ?_) (fun q => ?_) <;> (unfold chk at q; simp only [Bool.and_eq_true] at q)
    · replace q := q.2
      cases e with
      | BinOp a' o' b' p =>
        simp only
                                                                    [Bool.and_eq_true, decide_eq_true_eq]
                                                                    at q
        obtain ⟨rfl, q1, q2⟩ := q
        exact x_bin hK ((ok_e C a c X B hx hK a').w q1) ((ok_e C b c X B hx hK b').w q2)
      | _ => simp at q
    · refine ⟨by unfold chk; simp only [q.2]; rfl, by simpa using q.1⟩
  | .neg a, c, X, B, hx, hK, e => by
    refine .of (fun q => ?_) rfl (fun q => ?_) <;> (unfold chk at q; simp only [Bool.and_eq_true] at q)
    · replace q := q.2
      cases e with
      | UnaryOp o a' p =>
        cases o with
        | USub => exact s_neg ((ok_e C a c X B hx hK a').w q)
        | _ => simp at q
      | _ => simp at q
    · refine ⟨by unfold chk; simp only [q.2]; rfl, by simpa using q.1⟩
  | .cmp o a b, c, X, B, hx, hK, e => by
    have inv : ∀ t, chk c t (.cmp o a b) e = true → ∃ a' b' p, e = .Compare a' [o] [b'] p ∧ chk c false a a' = true ∧ chk c false b b' = true ∧ behindInMarks o b' = false := fun t q => by
      unfold chk at q
      cases e with
      | Compare a' os bs p =>
        simp only at q
        split at q
        · rename_i o' b'
          simp only [Bool.and_eq_true, decide_eq_true_eq, Bool.not_eq_true'] at q
          obtain ⟨rfl, q1, q2, q3⟩ := q
          exact ⟨a', b', p, rfl, q1, q2, q3⟩
        · cases q
      | _ => simp at q
    refine .of2 (fun q => ?_) rfl fun q => ?_
    · obtain ⟨a', b', p, rfl, q1, q2, q3⟩ := inv _ q
      exact s_cmp hx hK ((ok_e C a c X B hx hK a').w q1) ((ok_e C b c X B hx hK b').w q2) q3
    · obtain ⟨a', b', p, rfl, q1, q2, q3⟩ := inv _ q
      exact t_cmp hx hK ((ok_e C a c X B hx hK a').w q1) ((ok_e C b c X B hx hK b').w q2) q3
  | .chain o o2 a b d, c, X, B, hx, hK, e => by
    have inv : ∀ t, chk c t (.chain o o2 a b d) e = true → ∃ a' b' d' p, e = .Compare a' [o, o2] [b', d'] p ∧ chk c false a a' = true ∧ chk c false b b' = true ∧ chk c false d d' = true ∧ behindInMarks o2 d' = false := fun t q => by
      unfold chk at q
      cases e with
      | Compare a' os bs p =>
        simp only at q
        split at q
        · rename_i o' o2' b' d'
          simp only [Bool.and_eq_true, decide_eq_true_eq, Bool.not_eq_true'] at q
          obtain ⟨rfl, rfl, q1, q2, q3, q4, q5⟩ := q
          exact ⟨a', b', d', p, rfl, q1, q2, q3, q5⟩
        · cases q
      | _ => simp at q
    refine .of2 (fun q => ?_) rfl fun q => ?_
    · obtain ⟨a', b', d', p, rfl, q1, q2, q3, q5⟩ := inv _ q
      exact s_chain hx hK ((ok_e C a c X B hx hK a').w q1) ((ok_e C b c X B hx hK b').w q2) ((ok_e C d c X B hx hK d').w q3) q5
    · obtain ⟨a', b', d', p, rfl, q1, q2, q3, q5⟩ := inv _ q
      exact t_chain hx hK ((ok_e C a c X B hx hK a').w q1) ((ok_e C b c X B hx hK b').w q2) ((ok_e C d c X B hx hK d').w q3) q5
  | .bop k es, c, X, B, hx, hK, e => by
    refine .of2 (fun q => ?_) rfl fun q => ?_ <;> unfold chk at q
    · cases e with
      | BoolOp o es' p =>
        simp only [Bool.and_eq_true, decide_eq_true_eq, Bool.not_eq_true'] at q
        obtain ⟨rfl, q1, q2⟩ := q
        refine ((ok_es C es c X B hx hK es').b k p q1 (by intro z; rw [z] at q2; cases q2)).mono fun σ H Q ⟨W, ρ, env, hh, r, h', S, ev, p⟩ => ⟨W, ρ, env, hh, r, h', S, by unfold evE at ev; exact ev, p⟩
      | _ => simp at q
    · cases e with
      | BoolOp o es' p =>
        simp only [Bool.and_eq_true, decide_eq_true_eq, Bool.not_eq_true'] at q
        obtain ⟨rfl, q1, q2⟩ := q
        refine (pt_bool ((ok_es C es c X B hx hK es').t k p q1 (by intro z; rw [z] at q2; cases q2))).mono fun σ H Q ⟨W, ρ, env, hh, r, h', S, ev, p⟩ => ⟨W, ρ, env, hh, r, h', S, by unfold evE at ev; exact ev, p⟩
      | _ => simp at q
  | .no a, c, X, B, hx, hK, e => by
    have inv : ∀ t, chk c t (.no a) e = true → ∃ a' p, e = .UnaryOp .Not a' p ∧ chk c t a a' = true ∧ isOwn a = false := fun t q => by
      unfold chk at q
      cases e with
      | UnaryOp o a' p =>
        cases o with
        | Not =>
          simp only [Bool.and_eq_true, Bool.not_eq_true'] at q
          exact ⟨a', p, rfl, q.1, q.2⟩
        | _ => simp at q
      | _ => simp at q
    refine .of2 (fun q => ?_) rfl fun q => ?_
    · obtain ⟨a', p, rfl, q1, q2⟩ := inv _ q
      exact s_no ((ok_e C a c X B hx hK a').s q1 q2)
    · obtain ⟨a', p, rfl, q1, q2⟩ := inv _ q
      exact t_no ((ok_e C a c X B hx hK a').t q1)
  | .tru a, c, X, B, hx, hK, e => by
    refine .of2 (fun q => ?_) rfl fun q => ?_ <;> unfold chk at q
    · simp at q
    · simp only [Bool.and_eq_true] at q
      exact t_tru hK ((ok_e C a c X B hx hK e).w q.2.2) q.2.1
  | .ite k a b, c, X, B, hx, hK, e => by
    refine .of (fun q => ?_) rfl (fun q => ?_) <;> (unfold chk at q; simp only [Bool.and_eq_true] at q)
    · replace q := q.2
      cases e with
      | IfExp k' a' b' p =>
        simp only [Bool.and_eq_true, Bool.not_eq_true'] at q
        obtain ⟨q1, q2, q3, q4, q5, q6⟩ := q
        exact s_ite ((ok_e C k c X B hx hK k').t q1) ((ok_e C a c X B hx hK a').s q2 q4) ((ok_e C b c X B hx hK b').s q3 q5)
      | _ => simp at q
    · refine ⟨by unfold chk; simp only [q.2]; rfl, by simpa using q.1⟩
  | .idx a b, c, X, B, hx, hK, e => by
    refine .of (fun q => ?_) rfl (fun q => ?_) <;> (unfold chk at q; simp only [Bool.and_eq_true] at q)
    · replace q := q.2
      cases e with
      | Subscript a' b' p =>
        simp only [Bool.and_eq_true] at q
        exact s_idx hK ((ok_e C a c X B hx hK a').w q.1) ((ok_e C b c X B hx hK b').w q.2.1) q.2.2
      | _ => simp at q
    · refine ⟨by unfold chk; simp only [q.2]; rfl, by simpa using q.1⟩
  | .slc a lo hi, c, X, B, hx, hK, e => by
    refine .ofX (fun q => ?_) (fun q => ?_) <;> (unfold chk at q; simp only [Bool.and_eq_true] at q)
    · replace q := q.2
      split at q
      · simp only [Bool.and_eq_true] at q
        exact x_slc hK ((ok_e C a c X B hx hK _).w q.1) (ok_o C lo c X B hx hK _ q.2.1) (ok_o C hi c X B hx hK _ q.2.2)
      · cases q
    · refine ⟨by unfold chk; simp only [q.2]; rfl, by simpa using q.1⟩
  | .call f es, c, X, B, hx, hK, e => by
    refine .of (fun q => ?_) rfl (fun q => ?_) <;> (unfold chk at q; simp only [Bool.and_eq_true] at q)
    · replace q := q.2
      split at q
      · rename_i x p es' p2
        simp only [Bool.and_eq_true, Bool.not_eq_true'] at q
        obtain ⟨q1, q2⟩ := q
        cases es' with
        | nil =>
          cases es with
          | nil => exact s_call0 hx hK q1
          | cons => unfold chkEs at q2; cases q2
        | cons a r =>
          have o := ok_es C es c X B hx hK (a :: r)
          exact s_call hx hK q1 (o.n _ _ q2).2 (o.s q2) (o.n _ _ q2).1
      · cases q
    · refine ⟨by unfold chk; simp only [q.2]; rfl, by simpa using q.1⟩
  | .bad, c, X, B, hx, hK, e => by
    refine ⟨fun q => ⟨fun pins s σ H Q I ⟨W, ρ, env, hh, r, h', S, ev, p⟩ => ?_⟩, fun q _ => ⟨fun pins s σ H Q I ⟨W, ρ, env, hh, r, h', S, ev, p⟩ => ?_⟩, fun q z => (by cases z), fun q => ⟨fun pins s σ H Q I ⟨W, ρ, env, hh, r, h', S, ev, p⟩ => ?_⟩⟩ <;>
      (unfold evE at ev; cases ev)
  | .pr k es, c, X, B, hx, hK, e => by
    refine .ofX (fun q => ?_) (fun q => ?_) <;> (unfold chk at q; simp only [Bool.and_eq_true] at q)
    · replace q := q.2
      split at q
      · rename_i x p es' p2
        simp only [Bool.and_eq_true, Bool.not_eq_true'] at q
        obtain ⟨q1, q2, q3⟩ := q
        cases es' with
        | nil => cases q3
        | cons a r =>
          have o := ok_es C es c X B hx hK (a :: r)
          exact x_pr hx hK q1 (o.w q2) (o.n _ _ q2).1
      · cases q
    · refine ⟨by unfold chk; simp only [q.2]; rfl, by simpa using q.1⟩
  | .comp vs elt tg src ifs, c, X, B, hx, hK, e => by
    refine .fresh (fun q => ?_) fun s h r ev => isl_comp ev
    unfold chk at q
    simp only [Bool.and_eq_true] at q
    replace q := q.2
    split at q
    · rename_i elt' tg' it' ifs' scope p
      simp only [Bool.and_eq_true, decide_eq_true_eq, Bool.not_eq_true'] at q
      obtain ⟨q1, q2, q3, q4, q5, q6, q7, q8⟩ := q
      have hv := ownP_snd q5
      have hN : X.N = c.N := hx.hN
      have bk : BlkOk X.N X.env.scope scope (ownP c.N vs) := by rw [hN, hx.sc]; exact blkOk_by q1
      obtain ⟨si, sf⟩ := ok_src C src c X B hx hK true it' tg' q2
      refine (pe_lc hx.calm (by rw [hN]; exact hx.nd) si bk (fun s H A cl fp => g_ok (hx.blk (vs := vs)) hK.blk tg tg' q3) (fun s H A cl fp => ok_if C ifs _ _ B (hx.blk (vs := vs)) hK.blk ifs' q8)
        (fun s H A cl fp => (ok_e C elt _ _ B (hx.blk (vs := vs)) hK.blk elt').s q6 q7) sf).mono fun σ H Q h => ?_
      rw [hv]
      exact lc_sound hK.T (w := true) q4 σ H Q h
    · cases q
  | .pop0 a k, c, X, B, hx, hK, e => by
    refine .of (fun q => ?_) rfl (fun q => ?_) <;> (unfold chk at q; simp only [Bool.and_eq_true] at q)
    · replace q := q.2
      split at q
      · rename_i a' m ap k' cp
        simp only [Bool.and_eq_true, decide_eq_true_eq, Bool.not_eq_true'] at q
        obtain ⟨rfl, q1, q2, q3, q4, q5, q6, q7⟩ := q
        exact s_pop hx hK ((ok_e C a c X B hx hK _).s q1 q2) ((ok_e C k c X B hx hK _).s q3 q4) q5 q6 q7
      · cases q
    · refine ⟨by unfold chk; simp only [q.2]; rfl, by simpa using q.1⟩
  | .new a, c, X, B, hx, hK, e => by
    refine .of (fun q => ?_) rfl (fun q => ?_) <;> (unfold chk at q; simp only [Bool.and_eq_true] at q)
    · exact s_new ((ok_e C a c X B hx hK e).f q.2.1 q.2.2)
    · refine ⟨by unfold chk; simp [q.2], by simpa using q.1⟩
  | .isi a k, c, X, B, hx, hK, e => by
    refine .of (fun q => ?_) rfl (fun q => ?_) <;> (unfold chk at q; simp only [Bool.and_eq_true] at q)
    · replace q := q.2
      split at q
      · split at q
        · simp only [Bool.and_eq_true, decide_eq_true_eq]
                                                                    at q
          obtain ⟨rfl, q1, q2, q3, q4, rfl, q5, q6⟩ := q
          exact s_isi hx hK q1 q2 ((ok_e C a c X B hx hK _).w q3) q4 q5 q6
        · cases q
      · cases q
    · refine ⟨by unfold chk; simp only [q.2]; rfl, by simpa using q.1⟩
  | .gen k vs elt tg src ifs, c, X, B, hx, hK, e => by
    refine .of (fun q => ?_) rfl (fun q => ?_) <;> (unfold chk at q; simp only [Bool.and_eq_true] at q)
    · replace q := q.2
      split at q
      · rename_i x p elt' tg' it' ifs' scope gp p2
        simp only [Bool.and_eq_true, decide_eq_true_eq, Bool.not_eq_true'] at q
        obtain ⟨rfl, q1, q2, q3, q4, q5, q6, q7, q8, q9, q10, q11, q12⟩ := q
        obtain ⟨si, sf⟩ := ok_src C src c X B hx hK true it' tg' q6
        exact s_gen hx hK q1 q2 q3 q4 q8 (ownP_snd q9) si (genFold_ok q5 sf) (fun s H c' P' cenv fp pn ge => g_ok (hx.gen q3 (vs := vs) ge) (hK.gen ge) tg tg' q7)
          (fun s H c' P' cenv fp pn ge => ok_if C ifs _ _ _ (hx.gen q3 (vs := vs) ge) (hK.gen ge) ifs' q12) (fun s H c' P' cenv fp pn ge => (ok_e C elt _ _ _ (hx.gen q3 (vs := vs) ge) (hK.gen ge) elt').s q10 q11)
      · cases q
    · refine ⟨by unfold chk; simp only [q.2]; rfl, by simpa using q.1⟩
  | .join a b, c, X, B, hx, hK, e => by
    refine .of (fun q => ?_) rfl (fun q => ?_) <;> (unfold chk at q; simp only [Bool.and_eq_true] at q)
    · replace q := q.2
      split at q
      · rename_i a' m ap k' cp
        simp only [Bool.and_eq_true, decide_eq_true_eq, Bool.not_eq_true'] at q
        obtain ⟨rfl, q1, q2, q3, q5, q6, q7⟩ := q
        exact s_join hx hK ((ok_e C a c X B hx hK _).s q1 q2) ((ok_e C b c X B hx hK _).w q3) q5 q6 q7
      · cases q
    · refine ⟨by unfold chk; simp only [q.2]; rfl, by simpa using q.1⟩
  | .lstr a b, c, X, B, hx, hK, e => by
    refine .of (fun q => ?_) rfl (fun q => ?_) <;> (unfold chk at q; simp only [Bool.and_eq_true] at q)
    · replace q := q.2
      split at q
      · rename_i a' m ap k' cp
        simp only [Bool.and_eq_true, decide_eq_true_eq, Bool.not_eq_true'] at q
        obtain ⟨rfl, q1, q2, q3, q4, q5, q6, q7⟩ := q
        exact s_lstr hx hK ((ok_e C a c X B hx hK _).s q1 q2) ((ok_e C b c X B hx hK _).s q3 q4) q5 q6 q7
      · cases q
    · refine ⟨by unfold chk; simp only [q.2]; rfl, by simpa using q.1⟩
  | .dget kv a, c, X, B, hx, hK, e => by
    refine .of (fun q => ?_) rfl (fun q => ?_) <;> (unfold chk at q; simp only [Bool.and_eq_true] at q)
    · replace q := q.2
      split at q
      · rename_i ks vs dp m ap k' cp
        simp only [Bool.and_eq_true, decide_eq_true_eq, Bool.not_eq_true'] at q
        obtain ⟨rfl, q1, q2, q3, q4, q5, q6, q7, q8⟩ := q
        exact s_dget hx hK q1 q2 q3 q4 ((ok_e C a c X B hx hK _).s q5 q6) q7 q8
      · cases q
    · refine ⟨by unfold chk; simp only [q.2]; rfl, by simpa using q.1⟩
  | .popl a, c, X, B, hx, hK, e => by
    refine .of (fun q => ?_) rfl (fun q => ?_) <;> (unfold chk at q; simp only [Bool.and_eq_true] at q)
    · replace q := q.2
      split at q
      · rename_i a' m ap cp
        simp only [Bool.and_eq_true, decide_eq_true_eq, Bool.not_eq_true'] at q
        obtain ⟨rfl, q1, q2, q6, q7⟩ := q
        exact s_popl hx hK ((ok_e C a c X B hx hK _).s q1 q2) q6 q7
      · cases q
    · refine ⟨by unfold chk; simp only [q.2]; rfl, by simpa using q.1⟩
  | .isi2 a k l, c, X, B, hx, hK, e => by
    refine .of (fun q => ?_) rfl (fun q => ?_) <;> (unfold chk at q; simp only [Bool.and_eq_true] at q)
    · replace q := q.2
      split at q
      · split at q
        · split at q
          · simp only [Bool.and_eq_true, decide_eq_true_eq]
                                                                      at q
            obtain ⟨rfl, q1, q2, q3, q4, rfl, q5, q6, rfl, q7, q8⟩ := q
            exact s_isi2 hx hK q1 q2 ((ok_e C a c X B hx hK _).w q3) q4 q5 q6 q7 q8
          · cases q
        · cases q
      · cases q
    · refine ⟨by unfold chk; simp only [q.2]; rfl, by simpa using q.1⟩
theorem ok_es {Θ : Addr → Prop} (C : Cfg) : ∀ (m : Es) (c : Ct) (X : Cx) (B : Bx), XOk Θ c C X → BK Θ B X → ∀ e, OkEs C B c X m e
  | .nil, c, X, B, hx, hK, e => by
    cases e with
    | nil => exact ⟨fun _ => a_nil, fun _ => aw_nil, fun k p q n => absurd rfl n, fun k p q n => absurd rfl n, fun t s q => ⟨rfl, rfl⟩⟩
    | cons a r =>
      have no : ∀ t s, chkEs c t s .nil (a :: r) = true → False := fun t s q => by unfold chkEs at q; cases q
      exact ⟨fun q => (no _ _ q).elim, fun q => (no _ _ q).elim, fun k p q n => (no _ _ q).elim, fun k p q n => (no _ _ q).elim, fun t s q => (no _ _ q).elim⟩
  | .cons a r, c, X, B, hx, hK, e => by
    cases e with
    | nil =>
      have no : ∀ t s, chkEs c t s (.cons a r) [] = true → False := fun t s q => by unfold chkEs at q; cases q
      exact ⟨fun q => (no _ _ q).elim, fun q => (no _ _ q).elim, fun k p q n => (no _ _ q).elim, fun k p q n => (no _ _ q).elim, fun t s q => (no _ _ q).elim⟩
    | cons a' r' =>
      have inv : ∀ t s, chkEs c t s (.cons a r) (a' :: r') = true → noStar a' = true ∧ chk c t a a' = true ∧ (s = true → isOwn a = false) ∧ chkEs c t s r r' = true := fun t s q => by
        unfold chkEs at q
        simp only [Bool.and_eq_true, Bool.or_eq_true, Bool.not_eq_true'] at q
        exact ⟨q.1, q.2.1, fun z => q.2.2.1.elim (fun y => by rw [z] at y; cases y) id, q.2.2.2⟩
      have oa := ok_e C a c X B hx hK a'
      have or := ok_es C r c X B hx hK r'
      refine ⟨fun q => ?_, fun q => ?_, fun k p q _ => ?_, fun k p q _ => ?_, fun t s q => ?_⟩
      · obtain ⟨q1, q2, q3, q4⟩ := inv _ _ q
        exact a_cons (oa.s q2 (q3 rfl)) (or.s q4) q1
      · obtain ⟨q1, q2, q3, q4⟩ := inv _ _ q
        exact aw_cons (oa.w q2) (or.w q4) q1
      · obtain ⟨q1, q2, q3, q4⟩ := inv _ _ q
        cases r with
        | nil =>
          unfold chkEs at q4
          cases r' with
          | nil => exact b_one (oa.s q2 (q3 rfl))
          | cons => cases q4
        | cons b r2 =>
          cases r' with
          | nil => unfold chkEs at q4; cases q4
          | cons b' r2' => exact b_cons (oa.s q2 (q3 rfl)) (or.b k p q4 (by simp))
      · obtain ⟨q1, q2, q3, q4⟩ := inv _ _ q
        cases r with
        | nil =>
          unfold chkEs at q4
          cases r' with
          | nil => exact tb_one (oa.t q2)
          | cons => cases q4
        | cons b r2 =>
          cases r' with
          | nil => unfold chkEs at q4; cases q4
          | cons b' r2' => exact tb_cons (oa.t q2) (or.t k p q4 (by simp))
      · obtain ⟨q1, q2, q3, q4⟩ := inv _ _ q
        obtain ⟨n1, n2⟩ := or.n t s q4
        exact ⟨by simp [noStars, q1, n1], by simp [esLen, n2]⟩
theorem ok_o {Θ : Addr → Prop} (C : Cfg) : ∀ (m : Oe) (c : Ct) (X : Cx) (B : Bx), XOk Θ c C X → BK Θ B X → ∀ e, chkO c false m e = true → PO X e (tEvO C B m)
  | .no, c, X, B, hx, hK, e, q => by
    unfold chkO at q
    cases e with
    | none => exact o_no
    | some => cases q
  | .so a, c, X, B, hx, hK, e, q => by
    unfold chkO at q
    cases e with
    | none => cases q
    | some e => exact o_so ((ok_e C a c X B hx hK e).w q)
theorem ok_if {Θ : Addr → Prop} (C : Cfg) : ∀ (m : Oe) (c : Ct) (X : Cx) (B : Bx), XOk Θ c C X → BK Θ B X → ∀ e, chkIf c m e = true → PTs X e (tEvIf C B m)
  | .no, c, X, B, hx, hK, e, q => by
    unfold chkIf at q
    cases e with
    | nil => exact if_no
    | cons => cases q
  | .so a, c, X, B, hx, hK, e, q => by
    unfold chkIf at q
    cases e with
    | nil => cases q
    | cons e r =>
      cases r with
      | nil =>
        simp only [Bool.and_eq_true] at q
        exact if_so ((ok_e C a c X B hx hK e).t q.1)
      | cons => cases q
theorem ok_src {Θ : Addr → Prop} (C : Cfg) : ∀ (m : Src) (c : Ct) (X : Cx) (B : Bx), XOk Θ c C X → BK Θ B X → ∀ w e tg, chkSrc c w m e tg = true → PI X tg e (tSrc C B w m) ∧ ∀ x, foldedSetIterable e X.env x = pure x
  | .of a, c, X, B, hx, hK, w, e, tg, q => by
    unfold chkSrc at q
    simp only [Bool.and_eq_true, Bool.or_eq_true, Bool.not_eq_true'] at q
    refine ⟨?_, folded_ok q.2.2⟩
    rcases q.2.1 with z | z
    · subst z
      exact i_of hK (q_w ((ok_e C a c X B hx hK e).w q.1))
    · exact i_of hK (q_of ((ok_e C a c X B hx hK e).s q.1 z))
  | .rg1 a, c, X, B, hx, hK, w, e, tg, q => by
    unfold chkSrc at q
    split at q
    · rename_i x p es p2
      split at q
      · rename_i a'
        simp only
                                                                    [Bool.and_eq_true, decide_eq_true_eq]
                                                                    at q
        obtain ⟨rfl, q1, q2, q3, q4⟩ := q
        exact ⟨i_rg1 hx q1 q2 ((ok_e C a c X B hx hK a').w q3) q4, folded_ok rfl⟩
      · cases q
    · cases q
  | .rg2 a b, c, X, B, hx, hK, w, e, tg, q => by
    unfold chkSrc at q
    split at q
    · rename_i x p es p2
      split at q
      · rename_i a' b'
        simp only
                                                                    [Bool.and_eq_true, decide_eq_true_eq]
                                                                    at q
        obtain ⟨rfl, q1, q2, q3, q4, q5, q6⟩ := q
        exact ⟨i_rg2 hx q1 q2 ((ok_e C a c X B hx hK a').w q3) q5 ((ok_e C b c X B hx hK b').w q4) q6, folded_ok rfl⟩
      · cases q
    · cases q
  | .enum a, c, X, B, hx, hK, w, e, tg, q => by
    unfold chkSrc at q
    split at q
    · rename_i x p es p2
      split at q
      · rename_i a' t1 t2 t3
        simp only [Bool.and_eq_true, decide_eq_true_eq, Bool.or_eq_true, Bool.not_eq_true'] at q
        obtain ⟨rfl, q1, q2, q3, q4, q5⟩ := q
        refine ⟨i_enum hx hK q1 q2 ?_ q4, folded_ok rfl⟩
        rcases q5 with z | z
        · subst z
          exact q_w ((ok_e C a c X B hx hK a').w q3)
        · exact q_of ((ok_e C a c X B hx hK a').s q3 z)
      · cases q
    · cases q
  | .zip a b, c, X, B, hx, hK, w, e, tg, q => by
    unfold chkSrc at q
    split at q
    · rename_i x p es p2
      split at q
      · rename_i a' b' t1 t2 t3
        simp only [Bool.and_eq_true, decide_eq_true_eq, Bool.or_eq_true, Bool.not_eq_true'] at q
        obtain ⟨rfl, q1, q2, q3, q4, q5, q6, q7⟩ := q
        refine ⟨?_, folded_ok rfl⟩
        rcases q7 with z | z
        · subst z
          exact i_zip hx hK q1 q2 (q_w ((ok_e C a c X B hx hK a').w q3)) q5 (q_w ((ok_e C b c X B hx hK b').w q4)) q6
        · exact i_zip hx hK q1 q2 (q_of ((ok_e C a c X B hx hK a').s q3 z.1)) q5 (q_of ((ok_e C b c X B hx hK b').s q4 z.2)) q6
      · cases q
    · cases q
end
end MP

/-! MP: statements. -/
namespace MP
open PySem
open PySem.Spec
open PyProof.Rows
open L2

/-! ### the check -/
def noTupE : Expr → Bool
  | .Tuple .. => false
  | _ => true
/-- the stores come from the left -/
def constTup : Expr → Bool
  | .Tuple vs _ _ => vs.all (foldedForSure 8)
  | _ => false
def asgOk (ts : List Expr) (e : Expr) : Bool := constTup e || (noTupE e || !(ts.length == 2 || ts.length == 3))
def fnKind (sc : Scope) : Bool := match sc.kind with
  | .function => true
  | _ => false
def nmOk (c : Ct) (i : Nat) (x : Str) : Bool := decide (c.N[i]? = some x) && decide (x ∈ c.st)
/-- two names, stored from the right -/
def parOk (c : Ct) (i j : Nat) (x y : Str) (px py : Pos) (a b : Expr) : Bool :=
  decide (i ≠ j) && (decide (c.N[i]? = some x) && (decide (c.N[j]? = some y) && (decide (c.sc.names.lookup x = some .local) && (decide (c.sc.names.lookup y = some .local) && (decide (x ≠ y) &&
    ((py.line == px.line) && (fnKind c.sc && (!([a, b].all (foldedForSure 8)) && !([a, b].all (constantsAlone 8))))))))))
/-- three names, stored from the right -/
def par3Ok (c : Ct) (i j k : Nat) (x y z : Str) (px py pz : Pos) (a b d : Expr) : Bool :=
  decide (i ≠ j ∧ i ≠ k ∧ j ≠ k) && (decide (c.N[i]? = some x) && (decide (c.N[j]? = some y) && (decide (c.N[k]? = some z) && (decide (c.sc.names.lookup x = some .local) && (decide (c.sc.names.lookup y = some .local) && (decide (c.sc.names.lookup z = some .local) && (decide (x ≠ y ∧ x ≠ z ∧ y ≠ z) &&
    ((py.line == px.line) && ((pz.line == px.line) && (fnKind c.sc && (!([a, b, d].all (foldedForSure 8)) && !([a, b, d].all (constantsAlone 8)))))))))))))
mutual
def chkS (c : Ct) : S → Stmt → Bool
  | .set i e, st => match st with
    | .Assign tgs e' _ => (match tgs with
      | [.Name x _] => nmOk c i x && (chk c false e e' && (!isOwn e && fnKind c.sc))
      | _ => false)
    | _ => false
  | .seto i e, st => match st with
    | .Assign tgs e' _ => (match tgs with
      | [.Name x _] => nmOk c i x && (chk c false e e' && (isFresh e && fnKind c.sc))
      | _ => false)
    | _ => false
  | .setr i e, st => match st with
    | .Assign tgs e' _ => (match tgs with
      | [.Name x _] => nmOk c i x && (chk c false e e' && (isFresh e && fnKind c.sc))
      | _ => false)
    | _ => false
  | .asg t e, st => match st with
    | .Assign tgs e' _ => (match tgs with
      | [.Tuple ts k p] => chkT c t (.Tuple ts k p) && (chk c false e e' && (!isOwn e && asgOk ts e'))
      | _ => false)
    | _ => false
  | .par2 i j a b, st => match st with
    | .Assign tgs v _ => (match tgs, v with
      | [.Tuple [.Name x px, .Name y py] _ _], .Tuple [a', b'] _ _ => parOk c i j x y px py a' b' && (chk c false a a' && (!isOwn a && (chk c false b b' && (!isOwn b && (noStar a' && noStar b')))))
      | _, _ => false)
    | _ => false
  | .par3 i j k a b d, st => match st with
    | .Assign tgs v _ => (match tgs, v with
      | [.Tuple [.Name x px, .Name y py, .Name z pz] _ _], .Tuple [a', b', d'] _ _ => par3Ok c i j k x y z px py pz a' b' d' && (chk c false a a' && (!isOwn a && (chk c false b b' && (!isOwn b && (chk c false d d' && (!isOwn d && (noStar a' && (noStar b' && noStar d'))))))))
      | _, _ => false)
    | _ => false
  | .bad, _ => true
  | .app i e, st => match st with
    | .Expr v _ => (match v with
      | .Call (.Attribute (.Name x _) m ap) [e'] [] cp => okVar c i x && (decide (m = "append") && (chk c false e e' && (!isOwn e && (noStar e' && (ap.endLine == cp.line)))))
      | _ => false)
    | _ => false
  | .appr a e, st => match st with
    | .Expr v _ => (match v with
      | .Call (.Attribute a' m ap) [e'] [] cp => chk c false a a' && (!isOwn a && (decide (m = "append") && (chk c false e e' && (!isOwn e && (noStar e' && ((ap.endLine == cp.line) && noCall0 a'))))))
      | _ => false)
    | _ => false
  | .seti i k e, st => match st with
    | .Assign tgs e' _ => (match tgs with
      | [.Subscript (.Name x _) k' _] => okVar c i x && (chk c false k k' && (chk c false e e' && (!isOwn e && (noSlice k' && noTupE e'))))
      | _ => false)
    | _ => false
  | .setir a k e, st => match st with
    | .Assign tgs e' _ => (match tgs with
      | [.Subscript a' k' _] => chk c false a a' && (!isOwn a && (chk c false k k' && (chk c false e e' && (!isOwn e && (noSlice k' && noTupE e')))))
      | _ => false)
    | _ => false
  | .exp e, st => match st with
    | .Expr v _ => chk c false e v && noComp v
    | _ => false
  | .ret e, st => match st with
    | .Return o _ => (match o with
      | some e' => chk c false e e' && !isOwn e
      | none => false)
    | _ => false
  | .reto i, st => match st with
    | .Return o _ => (match o with
      | some (.Name x _) => okVar c i x
      | _ => false)
    | _ => false
  | .retn, st => match st with
    | .Return o _ => o.isNone
    | _ => false
  | .brk, st => match st with
    | .Break _ => true
    | _ => false
  | .cnt, st => match st with
    | .Continue _ => true
    | _ => false
  | .pass, st => match st with
    | .Pass _ => true
    | _ => false
  | .ifs k a b, st => match st with
    | .If k' a' b' _ => chk c true k k' && (chkSs c a a' && chkSs c b b')
    | _ => false
  | .forr t src b, st => match st with
    | .For t' src' b' o _ => chkT c t t' && (chkSrc c false src src' t' && (chkSs c b b' && o.isEmpty))
    | _ => false
  | .while k b, st => match st with
    | .While k' b' o _ => chk c true k k' && (chkSs c b b' && o.isEmpty)
    | _ => false
  | .frz _, _ => false
def chkSs (c : Ct) : Ss → List Stmt → Bool
  | .nil, l => l.isEmpty
  | .cons a r, l => match a with
    | .frz _ => chkSs c r l
    | .bad => true
    | a => match l with
      | st :: q => chkS c a st && chkSs c r q
      | [] => false
end

/-! ### readings -/
abbrev NoP : Addr → Prop := fun _ => False
section
variable (C : Cfg) (B : Bx)
def PostS (W : Addr → Prop) (ρ : List Addr) (H : Hp) (r : Fl) (h : Hh) (D : Ends) : Prop := match r with
  | .nx s => ∀ W' ρ' σ' H', SR B W' ρ' s h σ' H' → ExtS B.K NoP W ρ H W' ρ' H' → D.nx σ' H'
  | .ct s => ∀ W' ρ' σ' H', SR B W' ρ' s h σ' H' → ExtS B.K NoP W ρ H W' ρ' H' → D.ct σ' H'
  | .bk s => ∀ W' ρ' σ' H', SR B W' ρ' s h σ' H' → ExtS B.K NoP W ρ H W' ρ' H' → D.bk σ' H'
  | .rt d => ∀ v W' ρ' s σ' H', SR B W' ρ' s h σ' H' → ExtS B.K NoP W ρ H W' ρ' H' → Rep B.K W' ρ' H' v d → D.rt v H'
def tS (m : S) : TS := fun D σ H => ∃ W ρ env h r h', SR B W ρ env h σ H ∧ evS C m env h = some (r, h') ∧ PostS B W ρ H r h' D
def tSs (m : Ss) : TS := fun D σ H => ∃ W ρ env h r h', SR B W ρ env h σ H ∧ evSs C m env h = some (r, h') ∧ PostS B W ρ H r h' D
end
theorem _root_.L2.PS.mono {X : Cx} {st : Stmt} {t t' : TS} (h : PS X st t) (m : ∀ D σ H, t' D σ H → t D σ H) : PS X st t' := ⟨fun pins s σ H D I q => h.run pins s σ H D I (m D σ H q)⟩
theorem _root_.L2.PSs.mono {X : Cx} {st : List Stmt} {t t' : TS} (h : PSs X st t) (m : ∀ D σ H, t' D σ H → t D σ H) : PSs X st t' := ⟨fun pins s σ H D I q => h.run pins s σ H D I (m D σ H q)⟩
theorem Ext.sn {K : PySem.W.Frag} {W W' : Addr → Prop} {ρ ρ' : List Addr} {H H' : Hp} (x : Ext K W ρ H W' ρ' H') : ExtS K NoP W ρ H W' ρ' H' := x.s fun _ z => z.elim
section
variable {c : Ct} {Θ : Addr → Prop} {C : Cfg} {B : Bx} {X : Cx} {pos : Pos}
theorem PostS.ext {W W' : Addr → Prop} {ρ ρ' : List Addr} {H H' : Hp} {r : Fl} {h : Hh} {D : Ends} (x : ExtS B.K NoP W ρ H W' ρ' H') (p : PostS B W ρ H r h D) : PostS B W' ρ' H' r h D := by
  cases r with
  | nx s => exact fun W2 ρ2 σ2 H2 S y => p W2 ρ2 σ2 H2 S (x.trans y)
  | ct s => exact fun W2 ρ2 σ2 H2 S y => p W2 ρ2 σ2 H2 S (x.trans y)
  | bk s => exact fun W2 ρ2 σ2 H2 S y => p W2 ρ2 σ2 H2 S (x.trans y)
  | rt d => exact fun v W2 ρ2 s σ2 H2 S y q => p v W2 ρ2 s σ2 H2 S (x.trans y) q

/-! ### small forms -/
theorem sw_no {e : Expr} {o : Option Expr} {l : Nat} {env : PySem.Env} (h : noComp e = true) : swapsWith e o l env = pure false := by
  cases e <;> first | rfl | (simp [noComp] at h)
theorem sw_call {f : Expr} {as : List Expr} {ks : List Keyword} {p : Pos} {o : Option Expr} {l : Nat} {env : PySem.Env} : swapsWith (.Call f as ks p) o l env = pure false := sw_no rfl
theorem sw_tgt {e t : Expr} {l : Nat} {env : PySem.Env} (h : ∀ x p, t ≠ .Name x p) : swapsWith e (some t) l env = pure false := by
  unfold swapsWith
  split
  · cases t <;> first | rfl | exact absurd rfl (h _ _)
  · rfl
theorem sw_sole {e t : Expr} {l : Nat} {env : PySem.Env} (h : ∀ x p, t ≠ .Name x p) : swapsWithSole [t] e l env = pure false := sw_tgt h
theorem sw_stores {ts : List Expr} {k : Nat} {p : Pos} {e : Expr} {env : PySem.Env} (h : noTupE e = true) : swappedStores [.Tuple ts k p] e env = pure none := by
  cases e <;> first | rfl | (simp [noTupE] at h)
theorem sw_const {ts : List Expr} {k : Nat} {p : Pos} {e : Expr} {env : PySem.Env} (h : constTup e = true) : swappedStores [.Tuple ts k p] e env = pure none := by
  cases e with
  | Tuple vs k2 p2 =>
    have h' : vs.all (foldedForSure 8) = true := h
    unfold swappedStores
    simp only [h', if_true]
    repeat' split
    all_goals rfl
  | _ => cases h
theorem sw_stores3 {ts : List Expr} {k : Nat} {p : Pos} {e : Expr} {env : PySem.Env} (h : asgOk ts e = true) : swappedStores [.Tuple ts k p] e env = pure none := by
  unfold asgOk at h
  rw [Bool.or_eq_true] at h
  rcases h with h | h
  · exact sw_const h
  rw [Bool.or_eq_true] at h
  rcases h with h | h
  · exact sw_stores h
  · cases e with
    | Tuple vs k2 p2 =>
      unfold swappedStores
      simp only [h]
      simp
    | _ => rfl
theorem sw_stores2 {a b : Expr} {p : Pos} {e : Expr} {env : PySem.Env} : swappedStores [.Subscript a b p] e env = pure none := by
  cases e <;> rfl
/-- name = value: whatever the form of the value -/
theorem sw_name {x : Str} {px : Pos} {e : Expr} {l : Nat} {env : PySem.Env} (hk : env.scope.kind = .function) (he : noComp e = true ∨ ∃ elt gs sc p, e = .ListComp elt gs sc p) :
    swapsWith e (some (.Name x px)) l env = pure false ∨ ∃ elt gs sc p, e = .ListComp elt gs sc p ∧ env.scope.names.lookup x = some .local ∧ (px.line == p.line) = true ∧ (sc.names.any fun (n, k) => n == x && (k == .local || k == .cell)) = false := by
  rcases he with he | ⟨elt, gs, sc, p, rfl⟩
  · exact .inl (sw_no he)
  · have hb : env.blockKind = .function := by unfold Env.blockKind; rw [hk]; rfl
    by_cases h1 : env.scope.names.lookup x = some .local
    · by_cases h2 : (px.line == p.line) = true
      · cases h3 : (sc.names.any fun (n, k) => n == x && (k == .local || k == .cell)) with
        | false => exact .inr ⟨_, _, _, _, rfl, h1, h2, h3⟩
        | true =>
          left
          unfold swapsWith
          simp only [h3, hb]
          simp
      · left
        unfold swapsWith
        have h2' : (px.line == p.line) = false := by simpa using h2
        simp only [hb, Expr.pos, h2']
        simp
    · left
      have ky : (env.kindOf x == some .local) = false := by
        have : env.kindOf x ≠ some .local := h1
        simpa using this
      unfold swapsWith
      simp only [hb, ky]
      simp
theorem chk_comp {m : E} {e : Expr} (h : chk c false m e = true) : noComp e = true ∨ (∃ vs elt t src ifs, m = .comp vs elt t src ifs) ∨ ∃ a, m = .new a := by
  cases m <;> first | exact .inr (.inl ⟨_, _, _, _, _, rfl⟩) | exact .inr (.inr ⟨_, rfl⟩) | (left; cases e <;> first | rfl | (exfalso; unfold chk at h; first | (cases h; done) | simp at h))
theorem fnk {sc : Scope} (h : fnKind sc = true) : sc.kind = .function := by
  unfold fnKind at h
  split at h
  · assumption
  · cases h
theorem nm_of (hx : XOk Θ c C X) {i : Nat} {x : Str} (h : nmOk c i x = true) : X.N[i]? = some x ∧ Loc X.env.scope x ∧ (X.fn x = true ∨ X.env.scope.names.lookup x = some .local) := by
  unfold nmOk at h
  simp only
                                                              [Bool.and_eq_true, decide_eq_true_eq]
                                                              at h
  obtain ⟨h1, h2⟩ := hx.st x h.2
  exact ⟨by rw [hx.hN]; exact h.1, h1, h2⟩
theorem ps_setF (hx : XOk Θ c C X) (hK : BK Θ B X) {i : Nat} {x : Str} {px : Pos} {e : E} {e' : Expr} (hn : nmOk c i x = true) (he : chk c false e e' = true) (hf : isFresh e = true) (hk : fnKind c.sc = true) :
    PS X (.Assign [.Name x px] e' pos) (tAsg (tEvF C B e) (gName i)) := by
  obtain ⟨n1, n2, n3⟩ := nm_of hx hn
  have hN : X.N.Nodup := by rw [hx.hN]; exact hx.nd
  have pe := (ok_e C e c X B hx hK e').f he hf
  have hkind : X.env.scope.kind = .function := by rw [hx.sc]; exact fnk hk
  rcases chk_comp he with q | ⟨vs, elt, t, src, ifs, rfl⟩ | ⟨a, rfl⟩
  · exact ps_set hN n1 n2 pe (sw_no q) n3
  · by_cases q : noComp e' = true
    · exact ps_set hN n1 n2 pe (sw_no q) n3
    · cases e' with
      | ListComp elt' gs scope p =>
        rcases sw_name (x := x) (px := px) (l := pos.line) hkind (.inr ⟨elt', gs, scope, p, rfl⟩) with z | ⟨_, _, _, _, z, z1, z2, z3⟩
        · exact ps_set hN n1 n2 pe z n3
        · cases z
          have he' := he
          unfold chk at he
          simp only [Bool.and_eq_true] at he
          replace he := he.2
          split at he
          · rename_i elt2 tg' it' ifs' scope2 p2 heq
            cases heq
            simp only [Bool.and_eq_true, decide_eq_true_eq, Bool.not_eq_true'] at he
            obtain ⟨q1, q2, q3, q4, q5, q6, q7, q8⟩ := he
            have hv := ownP_snd q5
            have hNc : X.N = c.N := hx.hN
            have bk : BlkOk X.N X.env.scope scope (ownP c.N vs) := by rw [hNc, hx.sc]; exact blkOk_by q1
            obtain ⟨si, sf⟩ := ok_src C src c X B hx hK true it' tg' q2
            refine (ps_setLc hx.calm hN n1 z1 (sw_true hkind z1 z2 z3) si bk (fun s H A cl fp => g_ok (hx.blk (vs := vs)) hK.blk t tg' q3) (fun s H A cl fp => ok_if C ifs _ _ B (hx.blk (vs := vs)) hK.blk ifs' q8)
              (fun s H A cl fp => (ok_e C elt _ _ B (hx.blk (vs := vs)) hK.blk elt').s q6 q7) sf).mono fun D σ H h => ?_
            show tLc _ _ _ _ ((ownP c.N vs).map (·.2)) σ H fun x H1 => gName i x σ H1 D.nx
            rw [hv]
            exact lc_sound hK.T (w := true) q4 σ H _ h
          · cases he
      | SetComp => exfalso; unfold chk at he; simp at he
      | DictComp => exfalso; unfold chk at he; simp at he
      | _ => exact absurd rfl q
  · cases hf
theorem ps_setE (hx : XOk Θ c C X) (hK : BK Θ B X) {i : Nat} {x : Str} {px : Pos} {e : E} {e' : Expr} (hn : nmOk c i x = true) (he : chk c false e e' = true) (ho : isOwn e = false) (hk : fnKind c.sc = true) :
    PS X (.Assign [.Name x px] e' pos) (tAsg (tEv C B e) (gName i)) := by
  rcases chk_comp he with q | ⟨vs, elt, t, src, ifs, rfl⟩ | ⟨a, rfl⟩
  · obtain ⟨n1, n2, n3⟩ := nm_of hx hn
    exact ps_set (by rw [hx.hN]; exact hx.nd) n1 n2 ((ok_e C e c X B hx hK e').s he ho) (sw_no q) n3
  · refine (ps_setF hx hK hn he rfl hk).mono fun D σ H ⟨W, ρ, env, hh, r, h', S, ev, p⟩ => ?_
    obtain ⟨l, z⟩ := isl_comp ev
    simp only at z
    subst z
    exact ⟨W, ρ, env, hh, l, h', S, ev, p.f⟩
  · unfold chk at he
    simp only [Bool.and_eq_true] at he
    exact (ps_setF hx hK hn he.2.1 he.2.2 hk).mono fun D σ H h => new_f σ H _ h
end
end MP

/-! MP: every checked statement is what is evaluated. -/
namespace MP
open PySem
open PySem.Spec
open PyProof.Rows
open L2
section
variable {c : Ct} {Θ : Addr → Prop} {C : Cfg} {B : Bx} {X : Cx} {pos : Pos}
theorem st_set (hx : XOk Θ c C X) (hK : BK Θ B X) {i : Nat} {x : Str} {px : Pos} {e : E} {e' : Expr} (hn : nmOk c i x = true) (he : chk c false e e' = true) (ho : isOwn e = false) (hk : fnKind c.sc = true) :
    PS X (.Assign [.Name x px] e' pos) (tS C B (.set i e)) :=
  (ps_setE hx hK hn he ho hk).mono fun D σ H ⟨W, ρ, env, h, r, h', S, ev, p⟩ => by
    unfold evS at ev
    obtain ⟨q, e1, ev⟩ := Option.bind_eq_some_iff.mp ev
    split at ev
    · rename_i hi
      cases ev
      exact ⟨W, ρ, env, h, q.1, q.2, S, e1, fun v H1 W1 ρ1 S1 X1 R1 => p _ _ _ _ (S1.setv hi R1) X1.sn⟩
    · cases ev
theorem st_seto (hx : XOk Θ c C X) (hK : BK Θ B X) {i : Nat} {x : Str} {px : Pos} {e : E} {e' : Expr} (hn : nmOk c i x = true) (he : chk c false e e' = true) (hf : isFresh e = true) (hk : fnKind c.sc = true) :
    PS X (.Assign [.Name x px] e' pos) (tS C B (.seto i e)) :=
  (ps_setF hx hK hn he hf hk).mono fun D σ H ⟨W, ρ, env, h, r, h', S, ev, p⟩ => by
    unfold evS at ev
    obtain ⟨q, e1, ev⟩ := Option.bind_eq_some_iff.mp ev
    split at ev
    · rename_i l el
      split at ev
      · rename_i hi
        cases ev
        refine ⟨W, ρ, env, h, l, q.2, S, by rw [e1, ← el], fun a vs H1 W1 ρ1 S1 X1 ha R1 => p _ _ _ _ (S1.seto ha hi R1) (X1.trans ((addW_new ha).trans (.laid ha))).sn⟩
      · cases ev
    · cases ev
theorem SR.setobj {W : Addr → Prop} {ρ : List Addr} {env : Env} {h : Hh} {σ : L2.St} {H : Hp} (s : SR B W ρ env h σ H) {p : Addr} {vs : List V} {l : List D} {i : Nat} (hp : H p = none) (hi : i < env.length) (r : Reps B.K W ρ H vs l) :
    SR B (addW W p) (ρ ++ [p]) (env.set i (.v (.ref h.length))) (h ++ [.lst l]) (σ.set i (some (.ref p))) (upd H p (.lst vs)) := by
  refine (s.objnew hp r).setv hi (.ref ?_)
  rw [← s.hl, List.getElem?_append_right (Nat.le_refl _)]
  simp
theorem st_setr (hx : XOk Θ c C X) (hK : BK Θ B X) {i : Nat} {x : Str} {px : Pos} {e : E} {e' : Expr} (hn : nmOk c i x = true) (he : chk c false e e' = true) (hf : isFresh e = true) (hk : fnKind c.sc = true) :
    PS X (.Assign [.Name x px] e' pos) (tS C B (.setr i e)) :=
  (ps_setF hx hK hn he hf hk).mono fun D σ H ⟨W, ρ, env, h, r, h', S, ev, p⟩ => by
    unfold evS at ev
    obtain ⟨q, e1, ev⟩ := Option.bind_eq_some_iff.mp ev
    split at ev
    · rename_i l el
      split at ev
      · rename_i hi
        cases ev
        refine ⟨W, ρ, env, h, l, q.2, S, by rw [e1, ← el], fun a vs H1 W1 ρ1 S1 X1 ha R1 => p _ _ _ _ (S1.setobj ha hi R1) (X1.trans (.objnew ha)).sn⟩
      · cases ev
    · cases ev
theorem st_asg (hx : XOk Θ c C X) (hK : BK Θ B X) {t : T} {e : E} {ts : List Expr} {k : Nat} {p : Pos} {e' : Expr} (ht : chkT c t (.Tuple ts k p) = true) (he : chk c false e e' = true) (ho : isOwn e = false) (hn : asgOk ts e' = true) :
    PS X (.Assign [.Tuple ts k p] e' pos) (tS C B (.asg t e)) :=
  (ps_asg ((ok_e C e c X B hx hK e').s he ho) (g_ok hx hK t _ ht) (sw_sole fun x p z => by cases z) (sw_stores3 hn) (by rw [assignEach_ok rfl]; rfl)).mono fun D σ H ⟨W, ρ, env, h, r, h', S, ev, pp⟩ => by
    unfold evS at ev
    obtain ⟨q, e1, ev⟩ := Option.bind_eq_some_iff.mp ev
    obtain ⟨s', e2, ev⟩ := Option.map_eq_some_iff.mp ev
    cases ev
    exact ⟨W, ρ, env, h, q.1, q.2, S, e1, fun v H1 W1 ρ1 S1 X1 R1 => ⟨W1, ρ1, env, q.2, q.1, s', S1, R1, e2, fun σ' S' _ => pp _ _ _ _ S' X1.sn⟩⟩
theorem par_of (hx : XOk Θ c C X) {i j : Nat} {x y : Str} {px py pt pt2 : Pos} {kt k2 : Nat} {a b : Expr} (h : parOk c i j x y px py a b = true) (ha : noStar a = true) (hb : noStar b = true) :
    X.N[i]? = some x ∧ X.N[j]? = some y ∧ i ≠ j ∧ X.env.scope.names.lookup x = some .local ∧ X.env.scope.names.lookup y = some .local ∧ swappedStores [.Tuple [.Name x px, .Name y py] kt pt] (.Tuple [a, b] k2 pt2) X.env = pure (some [x, y]) := by
  unfold parOk at h
  simp only [Bool.and_eq_true, decide_eq_true_eq, Bool.not_eq_true'] at h
  obtain ⟨h1, h2, h3, h4, h5, h6, h7, h8, h9, h10⟩ := h
  rw [← hx.sc] at h4 h5 h8
  refine ⟨by rw [hx.hN]; exact h2, by rw [hx.hN]; exact h3, h1, h4, h5, ?_⟩
  have hbk : X.env.blockKind = .function := by unfold Env.blockKind; rw [fnk h8]; rfl
  have kx : (X.env.kindOf x == some .local) = true := by
    have : X.env.kindOf x = some .local := h4
    rw [this]; rfl
  have ky : (X.env.kindOf y == some .local) = true := by
    have : X.env.kindOf y = some .local := h5
    rw [this]; rfl
  have sf : ∀ e : Expr, noStar e = true → (match e with | .Starred .. => true | _ => false) = false := fun e h => by cases e <;> first | (simp [noStar] at h; done) | rfl
  have st : ([a, b].any fun | .Starred .. => true | _ => false) = false := Bool.or_eq_false_iff.mpr ⟨sf a ha, Bool.or_eq_false_iff.mpr ⟨sf b hb, rfl⟩⟩
  have ed : ([x, y] : List Str).eraseDups.length = 2 := by
    have : (y == x) = false := by simp [Ne.symm h6]
    simp [List.eraseDups_cons, this]
  unfold swappedStores
  simp only [List.length_cons, List.length_nil, hbk, st, List.head?_cons, Option.map_some, Option.getD_some, Expr.pos, List.filterMap_cons, List.filterMap_nil, kx, ky, h7, h9, h10]
  have sa : ∀ e : Expr, noStar e = true → ¬ (match e with | .Starred .. => true | _ => false) = true := fun e h => by cases e <;> first | (simp [noStar] at h; done) | simp
  simp
  rw [if_neg (fun z => z.elim (sa a ha) (sa b hb)), if_pos ed]
theorem st_par2 (hx : XOk Θ c C X) (hK : BK Θ B X) {i j : Nat} {a b : E} {x y : Str} {px py pt pt2 : Pos} {kt k2 : Nat} {a' b' : Expr} (h : parOk c i j x y px py a' b' = true) (ha : chk c false a a' = true) (oa : isOwn a = false) (hb : chk c false b b' = true) (ob : isOwn b = false) (na : noStar a' = true) (nb : noStar b' = true) :
    PS X (.Assign [.Tuple [.Name x px, .Name y py] kt pt] (.Tuple [a', b'] k2 pt2) pos) (tS C B (.par2 i j a b)) := by
  obtain ⟨h1, h2, h3, h4, h5, h6⟩ := par_of (pt := pt) (pt2 := pt2) (kt := kt) (k2 := k2) hx h na nb
  refine (ps_par hx.calm (by rw [hx.hN]; exact hx.nd) h1 h2 h3 h4 h5 (a_cons ((ok_e C a c X B hx hK a').s ha oa) (a_cons ((ok_e C b c X B hx hK b').s hb ob) a_nil nb) na) h6 (sw_sole fun x p z => by cases z)).mono fun D σ H ⟨W, ρ, env, h, r, h', S, ev, p⟩ => ?_
  unfold evS at ev
  obtain ⟨q1, e1, ev⟩ := Option.bind_eq_some_iff.mp ev
  obtain ⟨q2, e2, ev⟩ := Option.bind_eq_some_iff.mp ev
  split at ev
  · rename_i hi
    cases ev
    refine ⟨W, ρ, env, h, [q1.1, q2.1], q2.2, S, by unfold evEs evEs evEs; rw [e1]; show (Option.map _ (Option.bind (evE C b env q1.2) _)) = _; rw [e2]; rfl, fun vs H1 W1 ρ1 S1 X1 R1 => ?_⟩
    cases R1 with
    | cons r rr =>
      cases rr with
      | cons r' rr =>
        cases rr
        exact ⟨_, _, rfl, p _ _ _ _ ((S1.setv hi.1 r).setv (by rw [List.length_set]; exact hi.2) r') X1.sn⟩
  · cases ev
theorem st_par3 (hx : XOk Θ c C X) (hK : BK Θ B X) {i j l : Nat} {a b d : E} {x y z : Str} {px py pz pt pt2 : Pos} {kt k2 : Nat} {a' b' d' : Expr} (h : par3Ok c i j l x y z px py pz a' b' d' = true) (ha : chk c false a a' = true) (oa : isOwn a = false) (hb : chk c false b b' = true) (ob : isOwn b = false)
    (hd : chk c false d d' = true) (od : isOwn d = false) (na : noStar a' = true) (nb : noStar b' = true) (nd : noStar d' = true) :
    PS X (.Assign [.Tuple [.Name x px, .Name y py, .Name z pz] kt pt] (.Tuple [a', b', d'] k2 pt2) pos) (tS C B (.par3 i j l a b d)) := by
  unfold par3Ok at h
  simp only [Bool.and_eq_true, decide_eq_true_eq, Bool.not_eq_true'] at h
  obtain ⟨⟨n1, n2, n3⟩, h2, h3, h4, h5, h6, h7, ⟨m1, m2, m3⟩, h8, h9, h10, h11, h12⟩ := h
  rw [← hx.sc] at h5 h6 h7 h10
  have sw : swappedStores [.Tuple [.Name x px, .Name y py, .Name z pz] kt pt] (.Tuple [a', b', d'] k2 pt2) X.env = pure (some [x, y, z]) := by
    have hbk : X.env.blockKind = .function := by unfold Env.blockKind; rw [fnk h10]; rfl
    have kx : (X.env.kindOf x == some .local) = true := by
      have : X.env.kindOf x = some .local := h5
      rw [this]; rfl
    have ky : (X.env.kindOf y == some .local) = true := by
      have : X.env.kindOf y = some .local := h6
      rw [this]; rfl
    have kz : (X.env.kindOf z == some .local) = true := by
      have : X.env.kindOf z = some .local := h7
      rw [this]; rfl
    have sa : ∀ e : Expr, noStar e = true → ¬ (match e with | .Starred .. => true | _ => false) = true := fun e h => by cases e <;> first | (simp [noStar] at h; done) | simp
    have ed : ([x, y, z] : List Str).eraseDups.length = 3 := by
      have q1 : (y == x) = false := by simp [Ne.symm m1]
      have q2 : (z == x) = false := by simp [Ne.symm m2]
      have q3 : (z == y) = false := by simp [Ne.symm m3]
      simp [List.eraseDups_cons, q1, q2, q3]
    have sf : ∀ e : Expr, noStar e = true → (match e with | .Starred .. => true | _ => false) = false := fun e h => by cases e <;> first | (simp [noStar] at h; done) | rfl
    have st : ([a', b', d'].any fun | .Starred .. => true | _ => false) = false :=
      Bool.or_eq_false_iff.mpr ⟨sf a' na, Bool.or_eq_false_iff.mpr ⟨sf b' nb, Bool.or_eq_false_iff.mpr ⟨sf d' nd, rfl⟩⟩⟩
    unfold swappedStores
    simp only [List.length_cons, List.length_nil, hbk, st, List.head?_cons, Option.map_some, Option.getD_some, Expr.pos, List.filterMap_cons, List.filterMap_nil, kx, ky, kz, h8, h9, h11, h12]
    simp
    first
      | rw [if_neg (fun z => z.elim (sa a' na) fun z => z.elim (sa b' nb) (sa d' nd)), if_pos ed]
      | simp [ed]
  refine (ps_par3 hx.calm (by rw [hx.hN]; exact hx.nd) (by rw [hx.hN]; exact h2) (by rw [hx.hN]; exact h3) (by rw [hx.hN]; exact h4) n1 n2 n3 h5 h6 h7 (a_cons ((ok_e C a c X B hx hK a').s ha oa) (a_cons ((ok_e C b c X B hx hK b').s hb ob) (a_cons ((ok_e C d c X B hx hK d').s hd od) a_nil nd) nb) na) sw (sw_sole fun x p z => by cases z)).mono fun D σ H ⟨W, ρ, env, h, r, h', S, ev, p⟩ => ?_
  unfold evS at ev
  obtain ⟨q1, e1, ev⟩ := Option.bind_eq_some_iff.mp ev
  obtain ⟨q2, e2, ev⟩ := Option.bind_eq_some_iff.mp ev
  obtain ⟨q3, e3, ev⟩ := Option.bind_eq_some_iff.mp ev
  split at ev
  · rename_i hi
    cases ev
    refine ⟨W, ρ, env, h, [q1.1, q2.1, q3.1], q3.2, S, by unfold evEs evEs evEs evEs; rw [e1]; show (Option.map _ (Option.bind (evE C b env q1.2) _)) = _; rw [e2]; show (Option.map _ (Option.map _ (Option.bind (evE C d env q2.2) _))) = _; rw [e3]; rfl, fun vs H1 W1 ρ1 S1 X1 R1 => ?_⟩
    cases R1 with
    | cons r rr =>
      cases rr with
      | cons r' rr =>
        cases rr with
        | cons r'' rr =>
          cases rr
          exact ⟨_, _, _, rfl, p _ _ _ _ (((S1.setv hi.1 r).setv (by rw [List.length_set]; exact hi.2.1) r').setv (by rw [List.length_set, List.length_set]; exact hi.2.2) r'') X1.sn⟩
  · cases ev
/-- x.append(e), by the value of x -/
theorem pe_app {te : TE} {o e' : Expr} {e : E} {ap : Pos} (ho : PE X o te) (he : PE X e' (tEv C B e)) (hs : noStar e' = true) (hb : noCall0 o = true) (hl : (ap.endLine == pos.line) = true) :
    PE X (.Call (.Attribute o "append" ap) [e'] [] pos) (tBM X.K "list" rAppend te (fun σ H Q => tEv C B e σ H fun v H' => Q [v] H')) := by
  have hfew : ((backTo pos (starEach [e'] X.env)).all (fun x => !x.1) && (backToKw pos (keywordEach [] X.env)).all (fun x => x.1.isSome)
      && decide ([e'].length + ([] : List Keyword).length + (if ([] : List Keyword).isEmpty then 0 else 1) < 30)) = true := by
    rw [starEach_ok hs]; rfl
  exact pe_bm PySem.F.plainAttrs_list PySem.F.slot_list_append PySem.F.type_list_append mt_append ho ((pa_cons he pa_nil (starEach_ok hs)).mono fun σ H Q q => q) (attrBase_ok hb) hfew hl (starEach_ok hs) rfl
theorem ExtS.own {K : PySem.W.Frag} {W : Addr → Prop} {ρ : List Addr} {H : Hp} {a : Addr} {vs ws : List V} (wa : W a) (ha : H a = some (.lst vs)) : ExtS K NoP W ρ H W ρ (upd H a (.lst ws)) :=
  ⟨List.prefix_refl _, fun _ _ => sqT_chg ha, fun b _ nb r => ⟨nb, rd_ne (fun e => nb (e ▸ wa)) r⟩, fun _ _ z => z.elim⟩
theorem st_app (hx : XOk Θ c C X) (hK : BK Θ B X) {i : Nat} {e : E} {x : Str} {px ap cp : Pos} {e' : Expr} (hv : okVar c i x = true) (he : chk c false e e' = true) (ho : isOwn e = false) (hs : noStar e' = true) (hl : (ap.endLine == cp.line) = true) :
    PS X (.Expr (.Call (.Attribute (.Name x px) "append" ap) [e'] [] cp) pos) (tS C B (.app i e)) := by
  refine (ps_expr (pe_app (s_name hx hv) ((ok_e C e c X B hx hK e').s he ho) hs rfl hl) sw_call).mono fun D σ H ⟨W, ρ, env, h, r, h', S, ev, p⟩ => ?_
  unfold evS at ev
  obtain ⟨q, e1, ev⟩ := Option.bind_eq_some_iff.mp ev
  split at ev
  · rename_i l el
    split at ev
    · rename_i hlen
      cases ev
      obtain ⟨a, vs, q1, q2, q3, q4, q5⟩ := S.ownAt el
      refine ⟨_, q1, .inl ⟨rfl, vs, .inl (.inl q2)⟩, W, ρ, env, h, q.1, q.2, S, e1, fun v H1 W1 ρ1 S1 X1 R1 => ?_⟩
      obtain ⟨a', ws, w1, w2, w3, w4, w5⟩ := S1.ownAt el
      rw [q1] at w1; cases w1
      refine ⟨a, ws, v, rfl, rfl, w2, by rw [w3.len]; exact Nat.lt_of_lt_of_le hlen (by decide), ?_⟩
      exact p _ _ _ _ (S1.ownset el q1 w2 (w3.app (.cons R1 .nil))) (X1.sn.trans (.own w4 w2))
    · cases ev
  · cases ev
theorem refAt {W : Addr → Prop} {ρ : List Addr} {env : Env} {h : Hh} {σ : L2.St} {H : Hp} (S : SR B W ρ env h σ H) {n : Nat} {v : V} (r : Rep B.K W ρ H v (.ref n)) : ∃ a l vs, v = .ref a ∧ ρ[n]? = some a ∧ h[n]? = some (.lst l) ∧ H a = some (.lst vs) ∧ Reps B.K W ρ H vs l ∧ W a := by
  cases r with
  | ref hn =>
    rename_i a
    obtain ⟨o, ho⟩ : ∃ o, h[n]? = some o := by
      have := (List.getElem?_eq_some_iff.mp hn).1
      rw [S.hl] at this
      exact ⟨_, List.getElem?_eq_getElem this⟩
    cases o with
    | lst l =>
      obtain ⟨vs, w1, w2⟩ := S.obj n _ _ ho hn
      exact ⟨a, l, vs, rfl, hn, ho, w1, w2, S.rw _ (List.mem_of_getElem? hn)⟩
theorem st_appr (hx : XOk Θ c C X) (hK : BK Θ B X) {a e : E} {ap cp : Pos} {a' e' : Expr} (ha : chk c false a a' = true) (oa : isOwn a = false) (he : chk c false e e' = true) (ho : isOwn e = false) (hs : noStar e' = true) (hl : (ap.endLine == cp.line) = true) (hn : noCall0 a' = true) :
    PS X (.Expr (.Call (.Attribute a' "append" ap) [e'] [] cp) pos) (tS C B (.appr a e)) := by
  refine (ps_expr (pe_app ((ok_e C a c X B hx hK a').s ha oa) ((ok_e C e c X B hx hK e').s he ho) hs hn hl) sw_call).mono fun D σ H ⟨W, ρ, env, h, r, h', S, ev, p⟩ => ?_
  unfold evS at ev
  obtain ⟨q1, e1, ev⟩ := Option.bind_eq_some_iff.mp ev
  obtain ⟨q2, e2, ev⟩ := Option.bind_eq_some_iff.mp ev
  split at ev
  · rename_i n en
    split at ev
    · rename_i l el
      split at ev
      · rename_i hlen
        cases ev
        refine ⟨W, ρ, env, h, q1.1, q1.2, S, e1, fun v H1 W1 ρ1 S1 X1 R1 => ?_⟩
        rw [en] at R1
        obtain ⟨ad, l0, vs0, rfl, f1, f2, f3, f4, f5⟩ := refAt S1 R1
        refine ⟨.inl ⟨rfl, vs0, .inl (.inl f3)⟩, W1, ρ1, env, q1.2, q2.1, q2.2, S1, e2, fun v2 H2 W2 ρ2 S2 X2 R2 => ?_⟩
        have g1 := pre_get X2.pre f1
        obtain ⟨ws, g2, g3⟩ := S2.obj n _ _ el g1
        have gw := S2.rw _ (List.mem_of_getElem? g1)
        refine ⟨ad, ws, v2, rfl, rfl, g2, by rw [g3.len]; exact Nat.lt_of_lt_of_le hlen (by decide), ?_⟩
        exact p _ _ _ _ (S2.objset el g1 g2 (g3.app (.cons R2 .nil))) ((X1.trans X2).sn.trans (.own gw g2))
      · cases ev
    · cases ev
  · cases ev
theorem g_sub {tg : TE} {ti : TE} {o i : Expr} {p : Pos} (ho : PE X o tg) (hi : PE X i ti) (hs : noSlice i = true) : PG X (.Subscript o i p) (gSub tg ti rSetL) := by
  refine pg_sub ho hi set_list fun v => ?_
  cases i <;> first | rfl | (simp [noSlice] at hs)
theorem st_seti (hx : XOk Θ c C X) (hK : BK Θ B X) {i : Nat} {k e : E} {x : Str} {px sp : Pos} {k' e' : Expr} (hv : okVar c i x = true) (hk : chk c false k k' = true) (he : chk c false e e' = true) (ho : isOwn e = false) (hs : noSlice k' = true) (hn : noTupE e' = true) :
    PS X (.Assign [.Subscript (.Name x px) k' sp] e' pos) (tS C B (.seti i k e)) := by
  refine (ps_asg ((ok_e C e c X B hx hK e').s he ho) (g_sub (s_name hx hv) ((ok_e C k c X B hx hK k').w hk) hs) (sw_sole fun x p z => by cases z) sw_stores2 (by rw [assignEach_ok rfl]; rfl)).mono fun D σ H ⟨W, ρ, env, h, r, h', S, ev, p⟩ => ?_
  unfold evS at ev
  obtain ⟨q1, e1, ev⟩ := Option.bind_eq_some_iff.mp ev
  obtain ⟨q2, e2, ev⟩ := Option.bind_eq_some_iff.mp ev
  split at ev
  · rename_i l z el ez
    obtain ⟨j, hj, ev⟩ := Option.map_eq_some_iff.mp ev
    cases ev
    refine ⟨W, ρ, env, h, q1.1, q1.2, S, e1, fun v H1 W1 ρ1 S1 X1 R1 => ?_⟩
    obtain ⟨a, vs, f1, f2, f3, f4, f5⟩ := S1.ownAt el
    refine ⟨_, f1, W1, ρ1, env, q1.2, q2.1, q2.2, S1, e2, fun v2 H2 W2 ρ2 S2 X2 R2 => ?_⟩
    rw [ez] at R2
    obtain ⟨a', ws, g1, g2, g3, g4, g5⟩ := S2.ownAt el
    rw [f1] at g1; cases g1
    refine ⟨a, ws, z, j, rfl, wInt R2, g2, by rw [g3.len]; exact hj, ?_⟩
    exact p _ _ _ _ (S2.ownset el f1 g2 (g3.set (R1.ext X2) j)) ((X1.trans X2).sn.trans (.own g4 g2))
  · cases ev
theorem st_setir (hx : XOk Θ c C X) (hK : BK Θ B X) {a k e : E} {sp : Pos} {a' k' e' : Expr} (ha : chk c false a a' = true) (oa : isOwn a = false) (hk : chk c false k k' = true) (he : chk c false e e' = true) (ho : isOwn e = false) (hs : noSlice k' = true) (hn : noTupE e' = true) :
    PS X (.Assign [.Subscript a' k' sp] e' pos) (tS C B (.setir a k e)) := by
  refine (ps_asg ((ok_e C e c X B hx hK e').s he ho) (g_sub ((ok_e C a c X B hx hK a').s ha oa) ((ok_e C k c X B hx hK k').w hk) hs) (sw_sole fun x p z => by cases z) sw_stores2 (by rw [assignEach_ok rfl]; rfl)).mono fun D σ H ⟨W, ρ, env, h, r, h', S, ev, p⟩ => ?_
  unfold evS at ev
  obtain ⟨q1, e1, ev⟩ := Option.bind_eq_some_iff.mp ev
  obtain ⟨q3, e3, ev⟩ := Option.bind_eq_some_iff.mp ev
  obtain ⟨q2, e2, ev⟩ := Option.bind_eq_some_iff.mp ev
  split at ev
  · rename_i n z en ez
    split at ev
    · rename_i l el
      obtain ⟨j, hj, ev⟩ := Option.map_eq_some_iff.mp ev
      cases ev
      refine ⟨W, ρ, env, h, q1.1, q1.2, S, e1, fun v H1 W1 ρ1 S1 X1 R1 => ⟨W1, ρ1, env, q1.2, q3.1, q3.2, S1, e3, fun v3 H3 W3 ρ3 S3 X3 R3 => ?_⟩⟩
      rw [en] at R3
      obtain ⟨ad, l0, vs0, rfl, f1, f2, f3, f4, f5⟩ := refAt S3 R3
      refine ⟨W3, ρ3, env, q3.2, q2.1, q2.2, S3, e2, fun v2 H2 W2 ρ2 S2 X2 R2 => ?_⟩
      rw [ez] at R2
      have g1 := pre_get X2.pre f1
      obtain ⟨ws, g2, g3⟩ := S2.obj n _ _ el g1
      have gw := S2.rw _ (List.mem_of_getElem? g1)
      refine ⟨ad, ws, z, j, rfl, wInt R2, g2, by rw [g3.len]; exact hj, ?_⟩
      exact p _ _ _ _ (S2.objset el g1 g2 (g3.set ((R1.ext X3).ext X2) j)) (((X1.trans X3).trans X2).sn.trans (.own gw g2))
    · cases ev
  · cases ev
theorem st_exp (hx : XOk Θ c C X) (hK : BK Θ B X) {e : E} {e' : Expr} (he : chk c false e e' = true) (hn : noComp e' = true) : PS X (.Expr e' pos) (tS C B (.exp e)) :=
  (ps_expr ((ok_e C e c X B hx hK e').w he) (sw_no hn)).mono fun D σ H ⟨W, ρ, env, h, r, h', S, ev, p⟩ => by
    unfold evS at ev
    obtain ⟨q, e1, ev⟩ := Option.map_eq_some_iff.mp ev
    cases ev
    exact ⟨W, ρ, env, h, q.1, q.2, S, e1, fun v H1 W1 ρ1 S1 X1 R1 => p _ _ _ _ S1 X1.sn⟩
theorem st_ret (hx : XOk Θ c C X) (hK : BK Θ B X) {e : E} {e' : Expr} (he : chk c false e e' = true) (ho : isOwn e = false) : PS X (.Return (some e') pos) (tS C B (.ret e)) :=
  (ps_ret ((ok_e C e c X B hx hK e').s he ho)).mono fun D σ H ⟨W, ρ, env, h, r, h', S, ev, p⟩ => by
    unfold evS at ev
    obtain ⟨q, e1, ev⟩ := Option.map_eq_some_iff.mp ev
    cases ev
    exact ⟨W, ρ, env, h, q.1, q.2, S, e1, fun v H1 W1 ρ1 S1 X1 R1 => p _ _ _ _ _ _ S1 X1.sn R1⟩
theorem SR.freezeX {W : Addr → Prop} {ρ : List Addr} {env : Env} {h : Hh} {σ : L2.St} {H : Hp} (S : SR B W ρ env h σ H) {i : Nat} {l : List D} (el : env[i]? = some (.own l)) :
    ∃ W' : Addr → Prop, SR B W' ρ (env.set i (.v (.lst l))) h σ H ∧ ExtS B.K NoP W ρ H W' ρ H ∧ ∃ a, σ[i]? = some (some (.ref a)) ∧ Rep B.K W' ρ H (.ref a) (.lst l) := by
  obtain ⟨a, vs, q1, q2, q3, wa, na, n0⟩ := S.own i l el
  -- the freeze keeps the heap and makes the protected set smaller
  obtain ⟨W', S', a', q1', R'⟩ := S.freeze2 el
  exact ⟨W', S', ⟨List.prefix_refl _, fun _ _ h => h, fun b us n r => ⟨fun z => n (R'.2 b z), r⟩, fun _ _ z => z.elim⟩, a', q1', R'.1⟩
theorem st_reto (hx : XOk Θ c C X) (hK : BK Θ B X) {i : Nat} {x : Str} {px : Pos} (hv : okVar c i x = true) : PS X (.Return (some (.Name x px)) pos) (tS C B (.reto i)) :=
  (ps_ret (s_name hx hv)).mono fun D σ H ⟨W, ρ, env, h, r, h', S, ev, p⟩ => by
    unfold evS at ev
    split at ev
    · rename_i l el
      cases ev
      obtain ⟨W', S', x', a, q1, q2⟩ := S.freezeX el
      exact ⟨_, q1, p _ _ _ _ _ _ S' x' q2⟩
    · cases ev
end
end MP

/-! MP: blocks and loops; every checked body. -/
namespace MP
open PySem
open PySem.Spec
open PyProof.Rows
open L2
section
variable {c : Ct} {Θ : Addr → Prop} {C : Cfg} {B : Bx} {X : Cx} {pos : Pos}
abbrev Own (X : Cx) : Prop := PassesOwn (model X.prog X.w) X.A X.env X.xe
theorem ss_nil : PSs X [] (tSs C B .nil) := pss_nil.mono fun D σ H ⟨W, ρ, env, h, r, h', S, ev, p⟩ => by
  unfold evSs at ev; cases ev
  exact p _ _ _ _ S .refl
theorem ss_cons {a : S} {r : Ss} {st : Stmt} {q : List Stmt} (ha : PS X st (tS C B a)) (hr : PSs X q (tSs C B r)) : PSs X (st :: q) (tSs C B (.cons a r)) :=
  (pss_cons ha hr).mono fun D σ H ⟨W, ρ, env, h, z, h', S, ev, p⟩ => by
    unfold evSs at ev
    obtain ⟨⟨fl, h1⟩, e1, ev⟩ := Option.bind_eq_some_iff.mp ev
    refine ⟨W, ρ, env, h, fl, h1, S, e1, ?_⟩
    cases fl with
    | nx s => exact fun W1 ρ1 σ1 H1 S1 X1 => ⟨W1, ρ1, s, h1, z, h', S1, ev, p.ext X1⟩
    | rt d => cases ev; exact p
    | bk s => cases ev; exact p
    | ct s => cases ev; exact p
theorem ss_frz {i : Nat} {r : Ss} {q : List Stmt} (hr : PSs X q (tSs C B r)) : PSs X q (tSs C B (.cons (.frz i) r)) :=
  hr.mono fun D σ H ⟨W, ρ, env, h, z, h', S, ev, p⟩ => by
    unfold evSs at ev
    obtain ⟨⟨fl, h1⟩, e1, ev⟩ := Option.bind_eq_some_iff.mp ev
    unfold evS at e1
    split at e1
    · rename_i l el
      cases e1
      obtain ⟨W', S', x', _⟩ := S.freezeX el
      exact ⟨W', ρ, _, h, z, h', S', ev, p.ext x'⟩
    · cases e1
theorem tst_bl {k : E} {env : Env} {h : Hh} {b : Bool} {h' : Hh} (e : evTst C k env h = some (b, h')) : evE C k env h = some (.bl b, h') := by
  unfold evTst at e
  obtain ⟨q, e1, e⟩ := Option.bind_eq_some_iff.mp e
  obtain ⟨x, e2, e⟩ := Option.map_eq_some_iff.mp e
  cases e
  rw [e1, ← isB_eq e2]
theorem st_if {k : E} {a b : Ss} {k' : Expr} {a' b' : List Stmt} (hk : PT X k' (tTe C B k)) (ha : PSs X a' (tSs C B a)) (hb : PSs X b' (tSs C B b)) : PS X (.If k' a' b' pos) (tS C B (.ifs k a b)) :=
  (ps_if hk ha hb).mono fun D σ H ⟨W, ρ, env, h, z, h', S, ev, p⟩ => by
    unfold evS at ev
    obtain ⟨⟨x, h1⟩, e1, ev⟩ := Option.bind_eq_some_iff.mp ev
    refine ⟨W, ρ, env, h, x, h1, S, tst_bl e1, fun H1 W1 ρ1 S1 X1 => ?_⟩
    cases x with
    | true => exact ⟨W1, ρ1, env, h1, z, h', S1, ev, p.ext X1.sn⟩
    | false => exact ⟨W1, ρ1, env, h1, z, h', S1, ev, p.ext X1.sn⟩
theorem st_for (hp : Own X) (hc : X.calm = true) {t : T} {src : Src} {b : Ss} {t' src' : Expr} {b' : List Stmt} (hs : PI X t' src' (tSrc C B false src)) (hf : ∀ x, foldedSetIterable src' X.env x = pure x) (ht : PG X t' (tG B t)) (hb : PSs X b' (tSs C B b)) :
    PS X (.For t' src' b' [] pos) (tS C B (.forr t src b)) := by
  refine (ps_for hp hc hs ht hb hf).mono fun D σ H ⟨W, ρ, env, h, z, h', S, ev, p⟩ => ?_
  unfold evS at ev
  obtain ⟨⟨items, h1⟩, e1, ev⟩ := Option.bind_eq_some_iff.mp ev
  refine ⟨W, ρ, env, h, items, h1, S, e1, fun J H1 W1 ρ1 S1 X1 G => ?_⟩
  have p1 := p.ext X1.sn
  refine ⟨fun i m σ2 H2 => m = items.length - i ∧ i ≤ items.length ∧ ∃ W2 ρ2 s hh, SR B W2 ρ2 s hh σ2 H2 ∧ ExtS B.K NoP W1 ρ1 H1 W2 ρ2 H2 ∧ forL (asgT t) (fun s h => evSs C b s h) (items.drop i) s hh = some (z, h'),
    ⟨items.length, by simp, Nat.zero_le _, W1, ρ1, env, h1, S1, .refl, by simpa using ev⟩, ?_⟩
  rintro i m σ2 H2 ⟨rfl, hi, W2, ρ2, s, hh, S2, X2, ef⟩
  have XS : ExtS B.K (fun a => false = true ∧ H1 a ≠ none ∧ a ∉ ρ1) W1 ρ1 H1 W2 ρ2 H2 := ⟨X2.pre, X2.tp, X2.ls, fun a vs z => by cases z.1⟩
  by_cases hlt : i < items.length
  · right
    refine ⟨G.go W2 ρ2 H2 XS i hlt, _, fun σ' H' n => ⟨_, Nat.lt_of_lt_of_le (by omega : items.length - (i + 1) < items.length - i) (Nat.le_refl _), n⟩, fun x H3 y => ?_⟩
    have hd : items[i]? = some items[i] := List.getElem?_eq_getElem hlt
    obtain ⟨ch, Rx⟩ := G.yl W2 ρ2 H2 XS i x H3 _ hd y
    have st : SR B W2 ρ2 s hh σ2 H3 ∧ Ext B.K W2 ρ2 H2 W2 ρ2 H3 := by
      rcases ch with rfl | ⟨T, us, hT, rfl⟩
      · exact ⟨S2, .refl⟩
      · exact ⟨S2.laid hT, .laid hT⟩
    obtain ⟨S3, X3⟩ := st
    rw [List.drop_eq_getElem_cons hlt] at ef
    unfold forL at ef
    obtain ⟨s1, f1, ef⟩ := Option.bind_eq_some_iff.mp ef
    obtain ⟨⟨fl, h2⟩, f2, ef⟩ := Option.bind_eq_some_iff.mp ef
    refine ⟨W2, ρ2, s, hh, items[i], s1, S3, Rx, f1, fun σ4 S4 _ => ⟨W2, ρ2, s1, hh, fl, h2, S4, f2, ?_⟩⟩
    have X23 := X2.trans X3.sn
    cases fl with
    | nx s2 => exact fun W5 ρ5 σ5 H5 S5 X5 => ⟨rfl, hlt, W5, ρ5, s2, h2, S5, X23.trans X5, ef⟩
    | ct s2 => exact fun W5 ρ5 σ5 H5 S5 X5 => ⟨rfl, hlt, W5, ρ5, s2, h2, S5, X23.trans X5, ef⟩
    | bk s2 => cases ef; exact fun W5 ρ5 σ5 H5 S5 X5 => p1 _ _ _ _ S5 (X23.trans X5)
    | rt d => cases ef; exact fun v W5 ρ5 s5 σ5 H5 S5 X5 R5 => p1 _ _ _ _ _ _ S5 (X23.trans X5) R5
  · left
    have hi' : i = items.length := by omega
    subst hi'
    rw [List.drop_length] at ef
    unfold forL at ef
    cases ef
    exact ⟨G.stop W2 ρ2 H2 XS, p1 _ _ _ _ S2 X2⟩
theorem st_while (hp : Own X) {k : E} {b : Ss} {k' : Expr} {b' : List Stmt} (hk : PT X k' (tTe C B k)) (hb : PSs X b' (tSs C B b)) : PS X (.While k' b' [] pos) (tS C B (.while k b)) := by
  refine (ps_while hp hk hb).mono fun D σ H ⟨W, ρ, env, h, z, h', S, ev, p⟩ => ?_
  unfold evS at ev
  refine ⟨fun m σ2 H2 => ∃ W2 ρ2 s hh, SR B W2 ρ2 s hh σ2 H2 ∧ ExtS B.K NoP W ρ H W2 ρ2 H2 ∧ whileL (fun s h => evTst C k s h) (fun s h => evSs C b s h) m s hh = some (z, h'), ⟨C.fuel, W, ρ, env, h, S, .refl, ev⟩, ?_⟩
  rintro m σ2 H2 ⟨W2, ρ2, s, hh, S2, X2, ef⟩
  cases m with
  | zero => unfold whileL at ef; cases ef
  | succ m =>
    unfold whileL at ef
    obtain ⟨⟨x, h1⟩, f1, ef⟩ := Option.bind_eq_some_iff.mp ef
    refine ⟨W2, ρ2, s, hh, x, h1, S2, tst_bl f1, fun H3 W3 ρ3 S3 X3 => ?_⟩
    have X23 := X2.trans X3.sn
    cases x with
    | true =>
      simp only [if_true]
      obtain ⟨⟨fl, h2⟩, f2, ef⟩ := Option.bind_eq_some_iff.mp ef
      refine ⟨_, fun σ' H' n => ⟨m, Nat.lt_succ_self m, n⟩, W3, ρ3, s, h1, fl, h2, S3, f2, ?_⟩
      cases fl with
      | nx s2 => exact fun W5 ρ5 σ5 H5 S5 X5 => ⟨W5, ρ5, s2, h2, S5, X23.trans X5, ef⟩
      | ct s2 => exact fun W5 ρ5 σ5 H5 S5 X5 => ⟨W5, ρ5, s2, h2, S5, X23.trans X5, ef⟩
      | bk s2 => cases ef; exact fun W5 ρ5 σ5 H5 S5 X5 => p _ _ _ _ S5 (X23.trans X5)
      | rt d => cases ef; exact fun v W5 ρ5 s5 σ5 H5 S5 X5 R5 => p _ _ _ _ _ _ S5 (X23.trans X5) R5
    | false =>
      cases ef
      exact p _ _ _ _ S3 X23
end
mutual
theorem ok_s {Θ : Addr → Prop} (C : Cfg) (c : Ct) (X : Cx) (B : Bx) (hx : XOk Θ c C X) (hp : Own X) (hK : BK Θ B X) : ∀ (m : S) (st : Stmt), chkS c m st = true → PS X st (tS C B m)
  | .set i e, st, q => by
    unfold chkS at q
    split at q
    · split at q
      · simp only [Bool.and_eq_true, Bool.not_eq_true'] at q
        exact st_set hx hK q.1 q.2.1 q.2.2.1 q.2.2.2
      · cases q
    · cases q
  | .seto i e, st, q => by
    unfold chkS at q
    split at q
    · split at q
      · simp only [Bool.and_eq_true] at q
        exact st_seto hx hK q.1 q.2.1 q.2.2.1 q.2.2.2
      · cases q
    · cases q
  | .setr i e, st, q => by
    unfold chkS at q
    split at q
    · split at q
      · simp only [Bool.and_eq_true] at q
        exact st_setr hx hK q.1 q.2.1 q.2.2.1 q.2.2.2
      · cases q
    · cases q
  | .asg t e, st, q => by
    unfold chkS at q
    split at q
    · split at q
      · simp only [Bool.and_eq_true, Bool.not_eq_true'] at q
        exact st_asg hx hK q.1 q.2.1 q.2.2.1 q.2.2.2
      · cases q
    · cases q
  | .par2 i j a b, st, q => by
    unfold chkS at q
    split at q
    · split at q
      · simp only [Bool.and_eq_true, Bool.not_eq_true'] at q
        obtain ⟨q1, q2, q3, q4, q5, q6, q7⟩ := q
        exact st_par2 hx hK q1 q2 q3 q4 q5 q6 q7
      · cases q
    · cases q
  | .par3 i j k a b d, st, q => by
    unfold chkS at q
    split at q
    · split at q
      · simp only [Bool.and_eq_true, Bool.not_eq_true'] at q
        obtain ⟨q1, q2, q3, q4, q5, q6, q7, q8, q9, q10⟩ := q
        exact st_par3 hx hK q1 q2 q3 q4 q5 q6 q7 q8 q9 q10
      · cases q
    · cases q
  | .bad, st, q => ⟨fun pins s σ H D I ⟨W, ρ, env, h, z, h', S, ev, p⟩ => by unfold evS at ev; cases ev⟩
  | .app i e, st, q => by
    unfold chkS at q
    split at q
    · split at q
      · simp only [Bool.and_eq_true, Bool.not_eq_true', decide_eq_true_eq] at q
        obtain ⟨q1, rfl, q3, q4, q5, q6⟩ := q
        exact st_app hx hK q1 q3 q4 q5 q6
      · cases q
    · cases q
  | .appr a e, st, q => by
    unfold chkS at q
    split at q
    · split at q
      · simp only [Bool.and_eq_true, Bool.not_eq_true', decide_eq_true_eq] at q
        obtain ⟨q1, q2, rfl, q3, q4, q5, q6, q7⟩ := q
        exact st_appr hx hK q1 q2 q3 q4 q5 q6 q7
      · cases q
    · cases q
  | .seti i k e, st, q => by
    unfold chkS at q
    split at q
    · split at q
      · simp only [Bool.and_eq_true, Bool.not_eq_true'] at q
        obtain ⟨q1, q2, q3, q4, q5, q6⟩ := q
        exact st_seti hx hK q1 q2 q3 q4 q5 q6
      · cases q
    · cases q
  | .setir a k e, st, q => by
    unfold chkS at q
    split at q
    · split at q
      · simp only [Bool.and_eq_true, Bool.not_eq_true'] at q
        obtain ⟨q1, q2, q3, q4, q5, q6, q7⟩ := q
        exact st_setir hx hK q1 q2 q3 q4 q5 q6 q7
      · cases q
    · cases q
  | .exp e, st, q => by
    unfold chkS at q
    split at q
    · simp only [Bool.and_eq_true] at q
      exact st_exp hx hK q.1 q.2
    · cases q
  | .ret e, st, q => by
    unfold chkS at q
    split at q
    · split at q
      · simp only [Bool.and_eq_true, Bool.not_eq_true'] at q
        exact st_ret hx hK q.1 q.2
      · cases q
    · cases q
  | .reto i, st, q => by
    unfold chkS at q
    split at q
    · split at q
      · exact st_reto hx hK q
      · cases q
    · cases q
  | .retn, st, q => by
    unfold chkS at q
    split at q
    · rename_i o p
      cases o with
      | none =>
        refine ps_retN.mono fun D σ H ⟨W, ρ, env, h, z, h', S, ev, p⟩ => ?_
        unfold evS at ev; cases ev
        exact p _ _ _ _ _ _ S .refl .non
      | some => cases q
    · cases q
  | .brk, st, q => by
    unfold chkS at q
    split at q
    · refine ps_break.mono fun D σ H ⟨W, ρ, env, h, z, h', S, ev, p⟩ => ?_
      unfold evS at ev; cases ev
      exact p _ _ _ _ S .refl
    · cases q
  | .cnt, st, q => by
    unfold chkS at q
    split at q
    · refine ps_continue.mono fun D σ H ⟨W, ρ, env, h, z, h', S, ev, p⟩ => ?_
      unfold evS at ev; cases ev
      exact p _ _ _ _ S .refl
    · cases q
  | .pass, st, q => by
    unfold chkS at q
    split at q
    · refine ps_pass.mono fun D σ H ⟨W, ρ, env, h, z, h', S, ev, p⟩ => ?_
      unfold evS at ev; cases ev
      exact p _ _ _ _ S .refl
    · cases q
  | .ifs k a b, st, q => by
    unfold chkS at q
    split at q
    · simp only [Bool.and_eq_true] at q
      exact st_if ((ok_e C k c X B hx hK _).t q.1) (ok_ss C c X B hx hp hK a _ q.2.1) (ok_ss C c X B hx hp hK b _ q.2.2)
    · cases q
  | .forr t src b, st, q => by
    unfold chkS at q
    split at q
    · rename_i t' src' b' o p
      simp only [Bool.and_eq_true] at q
      obtain ⟨q1, q2, q3, q4⟩ := q
      cases o with
      | nil =>
        obtain ⟨si, sf⟩ := ok_src C src c X B hx hK false src' t' q2
        exact st_for hp hx.calm si sf (g_ok hx hK t t' q1) (ok_ss C c X B hx hp hK b b' q3)
      | cons => cases q4
    · cases q
  | .while k b, st, q => by
    unfold chkS at q
    split at q
    · rename_i k' b' o p
      simp only [Bool.and_eq_true] at q
      obtain ⟨q1, q2, q3⟩ := q
      cases o with
      | nil => exact st_while hp ((ok_e C k c X B hx hK _).t q1) (ok_ss C c X B hx hp hK b _ q2)
      | cons => cases q3
    · cases q
  | .frz _, st, q => by unfold chkS at q; cases q
theorem ok_ss {Θ : Addr → Prop} (C : Cfg) (c : Ct) (X : Cx) (B : Bx) (hx : XOk Θ c C X) (hp : Own X) (hK : BK Θ B X) : ∀ (m : Ss) (l : List Stmt), chkSs c m l = true → PSs X l (tSs C B m)
  | .nil, l, q => by
    unfold chkSs at q
    cases l with
    | nil => exact ss_nil
    | cons => cases q
  | .cons a r, l, q => by
    unfold chkSs at q
    split at q
    · exact ss_frz (ok_ss C c X B hx hp hK r l q)
    · refine ⟨fun pins s σ H D I ⟨W, ρ, env, h, z, h', S, ev, p⟩ => ?_⟩
      unfold evSs at ev
      obtain ⟨q, e1, ev⟩ := Option.bind_eq_some_iff.mp ev
      unfold evS at e1; cases e1
    · split at q
      · simp only [Bool.and_eq_true] at q
        exact ss_cons (ok_s C c X B hx hp hK a _ q.1) (ok_ss C c X B hx hp hK r _ q.2)
      · cases q
end
end MP

/-! MP: functions: what is run is promised. -/
namespace MP
open PySem
open PySem.Spec
open PyProof.Rows
open L2
def ctOf (Pg : Prog) (bf : List (Str × String)) (N : List Str) (scope : Scope) : Ct where
  fns := Pg.fns.map fun f => (f.name, f.ps)
  globs := Pg.globs
  free := Pg.free
  bf := bf
  N := N
  sc := scope
  st := N.filter fun x => match scope.names.lookup x with
    | some .local => true
    | some .cell => true
    | _ => false
  sl := 3
/-- the rooms of one call -/
def perCall : Nat := 13
/-- where a def lies -/
structure FnDat where
  qual : Str
  params : Arguments
  body : List Stmt
  scope : Scope
  addr : Addr
  fd : FuncData
  ps : List Str
structure FnAt (K : PySem.W.Frag) (cs : List (Addr × Addr)) (mg : Str → Option Value) (Pg : Prog) (bf : List (Str × String)) (fn : Fn) (d : FnDat) : Prop where
  F : FunD K fn.name d.qual d.params d.body d.scope [] [] d.addr d.fd
  S : FnScope fn.N d.ps d.scope
  n : d.ps.length = fn.ps
  mg : mg fn.name = some (.ref d.addr)
  b : Binds K d.fd d.ps []
  c : chkSs (ctOf Pg bf fn.N d.scope) fn.body d.body = true
  cd : ∃ c P, d.fd.code = .ref c ∧ (c, P) ∈ cs
structure Surr (K : PySem.W.Frag) (cs : List (Addr × Addr)) (mg : Str → Option Value) (Pg : Prog) (bf : List (Str × String)) : Prop where
  free : ∀ x ∈ Pg.free, mg x = none
  bfn : ∀ q ∈ bf, mg q.1 = some (.builtin q.2)
  glob : ∀ q ∈ Pg.globs, ∃ u v, mg q.1 = some u ∧ RelV v u ∧ ∀ W ρ H, Rep K W ρ H v q.2
  fn : ∀ (f : Str) (fn : Fn), Pg.get f = some fn → ∃ d, FnAt K cs mg Pg bf fn d
/-- the tables of the code objects -/
def tabs (cs : List (Addr × Addr)) : Addr → Prop := fun P => ∃ c, (c, P) ∈ cs
theorem start_sr {cs : List (Addr × Addr)} {base : Heap} (hcs : ∀ p ∈ cs, PySem.W.CodeHd base p.1 p.2) {K : PySem.W.Frag} {W : Addr → Prop} {ρ : List Addr} {h : Hh} {H : Hp} {N : List Str} {vs : List V} {ds : List D} {fn : Fn} (hN : fn.N = N) (cr : CR K (tabs cs) W ρ h H) (r : Reps K W ρ H vs ds) :
    SR ⟨K, W, ρ, H, base, fun c P => (c, P) ∈ cs⟩ W ρ (startE fn ds) h (L2.start N vs) H where
  len := by
    unfold startE L2.start
    rw [hN]
    simp [r.len]
  val := fun i d e => by
    unfold startE at e
    by_cases hi : i < (ds.map Slot.v).length
    · rw [List.getElem?_append_left hi, List.getElem?_map] at e
      obtain ⟨d', e1, e2⟩ := Option.map_eq_some_iff.mp e
      cases e2
      obtain ⟨v, q1, q2⟩ := r.get e1
      refine ⟨v, ?_, q2⟩
      unfold L2.start
      have hi' : i < vs.length := (List.getElem?_eq_some_iff.mp q1).1
      rw [List.getElem?_append_left (by simpa using hi'), List.getElem?_map, q1]
      rfl
    · rw [List.getElem?_append_right (Nat.le_of_not_lt hi), List.getElem?_replicate] at e
      split at e <;> cases e
  own := fun i l e => by
    unfold startE at e
    by_cases hi : i < (ds.map Slot.v).length
    · rw [List.getElem?_append_left hi, List.getElem?_map] at e
      obtain ⟨d', e1, e2⟩ := Option.map_eq_some_iff.mp e
      cases e2
    · rw [List.getElem?_append_right (Nat.le_of_not_lt hi), List.getElem?_replicate] at e
      split at e <;> cases e
  sep := fun i j l m a e1 => by
    exfalso
    unfold startE at e1
    by_cases hi : i < (ds.map Slot.v).length
    · rw [List.getElem?_append_left hi, List.getElem?_map] at e1
      obtain ⟨d', e3, e2⟩ := Option.map_eq_some_iff.mp e1
      cases e2
    · rw [List.getElem?_append_right (Nat.le_of_not_lt hi), List.getElem?_replicate] at e1
      split at e1 <;> cases e1
  hl := cr.hl
  nd := cr.nd
  obj := cr.obj
  rw := cr.rw
  wtr := cr.wtr
  fr := fun _ _ e _ _ => e
  pre := List.prefix_refl _
  new := fun _ z => .inl z
  w0 := fun _ w => w
  wn := fun _ w => .inl w
  t0 := fun _ e => e
  w1 := cr.wtr
  kcs := fun c P k => ⟨.inl (hcs _ k), cr.tb P ⟨c, k⟩⟩
  tb := fun _ t => t
theorem SR.ext {B : Bx} {W : Addr → Prop} {ρ : List Addr} {env : Env} {h : Hh} {σ : L2.St} {H : Hp} (s : SR B W ρ env h σ H) (x : ExtS B.K NoP B.W0 B.ρ0 B.H0 W ρ H) : ExtC B.K B.W0 B.ρ0 B.H0 W ρ H :=
  ⟨⟨s.fr, s.t0, s.pre, s.new, x.tp, x.ls, s.w0, s.wn, s.tb⟩, s.w0, s.wn⟩
section
variable {P : Program} {w : World} {K : PySem.W.Frag} {mg : Str → Option Value} {base : Heap} {Pg : Prog} {bf : List (Str × String)} {fuel : Nat}
theorem get_name {f : Str} {fn : Fn} (h : Pg.get f = some fn) : fn.name = f := by
  unfold Prog.get at h
  have := List.find?_some h
  exact of_decide_eq_true this
theorem get_mem {f : Str} {fn : Fn} (h : Pg.get f = some fn) : fn ∈ Pg.fns := List.mem_of_find?_eq_some h
theorem get_at : ∀ {l : List Fn} {f x : Str} {n : Nat}, fnAt (l.map fun f => (f.name, f.ps)) f = some (x, n) → ∃ fn, l.find? (fun g => decide (g.name = f)) = some fn ∧ (fn.name, fn.ps) = (x, n)
  | [], f, x, n, h => by cases h
  | g :: l, f, x, n, h => by
    unfold fnAt at h
    rw [List.map_cons, List.find?_cons] at h
    rw [List.find?_cons]
    by_cases e : g.name = f
    · simp only [e, decide_true] at h ⊢
      exact ⟨g, rfl, by rw [← Option.some.inj h, e]⟩
    · simp only [e, decide_false] at h ⊢
      exact get_at h
theorem FunD_ok {x qual : Str} {params : Arguments} {body : List Stmt} {scope : Scope} {f : Addr} {fd : FuncData} {CX : CXT} {N ps : List Str} {k : Nat} {sp : Sp} (F : FunD K x qual params body scope [] [] f fd) (S : FnScope N ps scope) (len : ∀ vs H Q E, sp vs H Q E → vs.length = ps.length)
    (hbody : ∀ (cdv : Value) (A : Around) (outer : List PySem.Env) (s : Shared) (H : Hp) (vs : List V) (Q : VK) (E : XK), fd.code = cdv → Room k (A.deeper (envOfC qual scope s.heap.objs.size f cdv)) → sp vs H Q E →
      ∃ t, PSs (cxOf CX P w K mg base N qual scope f cdv A outer s H E) body t ∧ t { nx := fun _ H' => Q .non H', rt := Q } (L2.start N vs) H) : FnOk P w K mg base CX (k + 1) f fd ps sp := by
  obtain ⟨oc, od, dV, kV, doc, pm, an, cdv, ct,
                                                              osl, rfl, lk, hcd, _, _⟩ := F.ex
  exact fn_of lk hcd S len fun A outer s H vs Q E hr hsp => hbody cdv A outer s H vs Q E rfl hr hsp
theorem fn_ok {cs : List (Addr × Addr)} (su : Surr K cs mg Pg bf) (tb : ∀ p ∈ cs, LamX.TabB base mg p.1 p.2) : ∀ (n : Nat) (f : Str) (fn : Fn) (d : FnDat), Pg.get f = some fn → FnAt K cs mg Pg bf fn d →
    FnOk P w K mg base CX0 (perCall * n) d.addr d.fd d.ps (spRun K (tabs cs) ⟨run Pg fuel n, fuel⟩ f fn.ps)
  | 0, f, fn, d, hf, A => by
    refine ⟨fun vs H Q E ⟨W, ρ, ds, h, r, h', cr, rs, hn, e, p⟩ => ?_, fun A outer s H args us vs Q E hr e0 hb hv ⟨W, ρ, ds, h, r, h', cr, rs, hn, e, p⟩ => ?_⟩ <;> (have e : run Pg fuel 0 f ds h = some (r, h') := e; unfold run at e; cases e)
  | n + 1, f, fn, d, hf, A => by
    have hk : perCall * (n + 1) = (perCall * n + 12) + 1 := by unfold perCall; omega
    rw [hk]
    refine FunD_ok A.F A.S (fun vs H Q E ⟨W, ρ, ds, h, r, h', cr, rs, hn, e, p⟩ => by rw [rs.len, hn, A.n]) (fun cdv Ar outer s H vs Q E hcd hr ⟨W, ρ, ds, h, r, h', cr, rs, hn, e, p⟩ => ?_)
    obtain ⟨c0, P0, hc0, hm0⟩ := A.cd
    rw [hc0] at hcd
    subst hcd
    refine ⟨tSs ⟨run Pg fuel n, fuel⟩ ⟨K, W, ρ, H, base, fun c P => (c, P) ∈ cs⟩ fn.body, PSs.nox ?_, ?_⟩
    · refine ok_ss (Θ := tabs cs) ⟨run Pg fuel n, fuel⟩ (ctOf Pg bf fn.N d.scope) _ ⟨K, W, ρ, H, base, fun c P => (c, P) ∈ cs⟩ ?_ PassesOwn.never ⟨rfl, rfl, fun P t => t, c0, P0, rfl, hm0⟩ fn.body d.body A.c
      refine ⟨rfl, A.S.nd, rfl, rfl, hr.units, su.free, su.bfn, su.glob, fun x hx => ?_, fun f' x m e => ?_, ?_, ⟨P0, (tb _ hm0).bm⟩⟩
      · obtain ⟨_, h2⟩ := List.mem_filter.mp hx
        split at h2
        · rename_i k
          exact ⟨.inl k, .inr k⟩
        · rename_i k
          exact ⟨.inr k, .inl rfl⟩
        · cases h2
      · obtain ⟨fn', e1, e2⟩ := get_at (show fnAt (Pg.fns.map fun f => (f.name, f.ps)) f' = some (x, m) from e)
        cases e2
        obtain ⟨d', A'⟩ := su.fn f' fn' e1
        exact ⟨perCall * n, d'.addr, d'.fd, d'.ps, fn_ok su tb n f' fn' d' e1 A', hr, A'.mg, A'.F.kp, A'.b⟩
      · exact hr.mono (by show 4 * 3 ≤ _; omega)
    · have e : run Pg fuel (n + 1) f ds h = some (r, h') := e
      unfold run at e
      rw [hf] at e
      simp only at e
      by_cases hps : ds.length = fn.ps
      · rw [if_pos hps] at e
        obtain ⟨⟨fl, h2⟩, e1, e2⟩ := Option.bind_eq_some_iff.mp e
        refine ⟨W, ρ, startE fn ds, h, fl, h2, start_sr (fun p hp => (tb p hp).code) rfl cr rs, e1, ?_⟩
        cases fl with
        | nx s2 =>
          cases e2
          exact fun W' ρ' σ' H' S X => p .non H' W' ρ' (SR.cr (B := ⟨K, W, ρ, H, base, fun c P => (c, P) ∈ cs⟩) S fun _ t => t) (S.ext X) .non
        | rt dd =>
          cases e2
          exact fun v W' ρ' s' σ' H' S X R => p v H' W' ρ' (SR.cr (B := ⟨K, W, ρ, H, base, fun c P => (c, P) ∈ cs⟩) S fun _ t => t) (S.ext X) R
        | bk => cases e2
        | ct => cases e2
      · rw [if_neg hps] at e; cases e
end
end MP

/-! MP: the head and the law. -/
namespace MP
open PySem
open PySem.Spec
open PyProof.Rows
open L2

/-! ### values of the module's names -/
mutual
def repB (K : PySem.W.Frag) : Nat → Value → D → Bool
  | _, .none, .non => true
  | _, .bool b, .bl c => b == c
  | _, .int i _, .int j => decide (i = j)
  | _, .str z _, .str s => decide (z.cps.toList = s)
  | n + 1, .ref a, .tup l => match K.lookup a with
    | some ⟨.type c, _, .seq its _, _⟩ => decide (c = "tuple") && (decide (its.size ≤ sizeLine) && repsB K n its.toList l)
    | _ => false
  | _, _, _ => false
def repsB (K : PySem.W.Frag) : Nat → List Value → List D → Bool
  | _, [], [] => true
  | n, u :: us, d :: ds => repB K n u d && repsB K n us ds
  | _, _, _ => false
end
mutual
theorem repB_ok {K : PySem.W.Frag} : ∀ {n : Nat} {u : Value} {d : D}, repB K n u d = true → ∃ v, RelV v u ∧ ∀ W ρ H, Rep K W ρ H v d
  | 0, u, d, h => by
    cases d <;> cases u <;> first | (unfold repB at h; cases h; done) | skip
    · exact ⟨.non, rfl, fun _ _ _ => .non⟩
    · unfold repB at h
      have := eq_of_beq h
      subst this
      exact ⟨.bl _, rfl, fun _ _ _ => .bl _⟩
    · unfold repB at h
      have := of_decide_eq_true h
      subst this
      exact ⟨.int _, ⟨_, rfl⟩, fun _ _ _ => .int _⟩
    · unfold repB at h
      have := of_decide_eq_true h
      subst this
      exact ⟨.str _, ⟨_, rfl⟩, fun _ _ _ => .str _⟩
  | n + 1, u, d, h => by
    cases d <;> cases u <;> first | (unfold repB at h; cases h; done) | skip
    · exact ⟨.non, rfl, fun _ _ _ => .non⟩
    · unfold repB at h
      have := eq_of_beq h
      subst this
      exact ⟨.bl _, rfl, fun _ _ _ => .bl _⟩
    · unfold repB at h
      have := of_decide_eq_true h
      subst this
      exact ⟨.int _, ⟨_, rfl⟩, fun _ _ _ => .int _⟩
    · unfold repB at h
      have := of_decide_eq_true h
      subst this
      exact ⟨.str _, ⟨_, rfl⟩, fun _ _ _ => .str _⟩
    · rename_i l a
      unfold repB at h
      split at h
      · rename_i c od its n2 osl hl
        simp only
                                                                    [Bool.and_eq_true, decide_eq_true_eq]
                                                                    at h
        obtain ⟨rfl, h2, h3⟩ := h
        obtain ⟨vs, r, q⟩ := repsB_ok h3
        exact ⟨.ref a, rfl, fun W ρ H => .tup (.inr ⟨_, its, n2, hl, rfl, rfl, h2, r⟩) (q W ρ H)⟩
      · cases h
theorem repsB_ok {K : PySem.W.Frag} : ∀ {n : Nat} {u : List Value} {d : List D}, repsB K n u d = true → ∃ v, Vals v u ∧ ∀ W ρ H, Reps K W ρ H v d
  | _, [], [], _ => ⟨[], .nil, fun _ _ _ => .nil⟩
  | _, [], _ :: _, h => by unfold repsB at h; cases h
  | _, _ :: _, [], h => by unfold repsB at h; cases h
  | n, u :: us, d :: ds, h => by
    unfold repsB at h
    rw [Bool.and_eq_true] at h
    obtain ⟨v, r, q⟩ := repB_ok h.1
    obtain ⟨vs, rs, qs⟩ := repsB_ok h.2
    exact ⟨v :: vs, .cons r rs, fun W ρ H => .cons (q W ρ H) (qs W ρ H)⟩
end
/-! ### the Hook -/
def notList (o : Obj) : Bool := match o.cls with
  | .type n => !(n == "list")
  | _ => true
def globB (K : PySem.W.Frag) (q : Str × D) : Bool := match PySem.W.nsIn K mainGlobals q.1 with
  | some (some u) => repB K 8 u q.2
  | _ => false
def extra (bf : List (Str × String)) (gl : List (Str × D)) (K : PySem.W.Frag) : Bool :=
  (K.all fun p => notList p.2) && ((bf.all fun q => He.eqO (PySem.W.nsIn K mainGlobals q.1) (some (some (.builtin q.2)))) && gl.all fun q => globB K q)
/-- the Hook: facts, defs, empty tables of the defs' code objects -/
abbrev hookM (n : Nat) (fa : List He.Fa) (fn : List He.DefD) (bf : List (Str × String)) (gl : List (Str × D)) : PySem.W.Hook := He.hookX n fa fn [] (fn.map (·.at_)) (extra bf gl)
abbrev obsM (n : Nat) (fa : List He.Fa) (fn : List He.DefD) (bf : List (Str × String)) (gl : List (Str × D)) (g : Addr → Option Obj) : He.AlX := He.obsX n fa fn [] (fn.map (·.at_)) (extra bf gl) g
section
variable {bf : List (Str × String)} {gl : List (Str × D)} {K : PySem.W.Frag} {h : Heap} {mg : Str → Option Value}
theorem mem_lk {a : Addr} {o : Obj} : ∀ {K : PySem.W.Frag}, K.lookup a = some o → (a, o) ∈ K
  | [], e => by cases e
  | (b, u) :: r, e => by
    have e2 : (match a == b with | true => some u | false => r.lookup a) = some o := e
    cases q : (a == b) with
    | true =>
      rw [q] at e2
      cases e2
      have := eq_of_beq q
      subst this
      exact List.mem_cons_self ..
    | false =>
      rw [q] at e2
      exact List.mem_cons_of_mem _ (mem_lk e2)
theorem extra_list (c : extra bf gl K = true) {a : Addr} {o : Obj} (e : K.lookup a = some o) : o.cls ≠ .type "list" := by
  unfold extra at c
  rw [Bool.and_eq_true] at c
  have q := List.all_eq_true.mp c.1 _ (mem_lk e)
  intro z
  unfold notList at q
  simp only [z] at q
  exact absurd q (by decide)
theorem extra_bf (X : K.In h) (G : h.Ns mainGlobals mg) (c : extra bf gl K = true) : ∀ q ∈ bf, mg q.1 = some (.builtin q.2) := fun q hq => by
  unfold extra at c
  simp only [Bool.and_eq_true] at c
  exact PySem.W.mg_of X G (He.eqO_ok (List.all_eq_true.mp c.2.1 q hq))
theorem extra_glob (X : K.In h) (G : h.Ns mainGlobals mg) (c : extra bf gl K = true) : ∀ q ∈ gl, ∃ u v, mg q.1 = some u ∧ RelV v u ∧ ∀ W ρ H, Rep K W ρ H v q.2 := fun q hq => by
  unfold extra at c
  simp only [Bool.and_eq_true] at c
  have e := List.all_eq_true.mp c.2.2 q hq
  unfold globB at e
  split at e
  · rename_i u hu
    obtain ⟨v, r, f⟩ := repB_ok e
    exact ⟨u, v, PySem.W.mg_of X G hu, r, f⟩
  · cases e
end
/-- the code objects of the defs -/
def csOf (K : PySem.W.Frag) (fn : List He.DefD) : List (Addr × Addr) := fn.map fun d => He.cT K d.at_
theorem cd_of {fn : List He.DefD} {K : PySem.W.Frag} {d : He.DefD} (hd : d ∈ fn) {x qual : Str} {params : Arguments} {body : List Stmt} {scope : Scope} {fd : FuncData} (F : FunD K x qual params body scope [] [] (He.fAd K d.at_) fd) : ∃ c P, fd.code = .ref c ∧ (c, P) ∈ csOf K fn := by
  obtain ⟨oc, od, dV, kV, doc, pm, an, cdv, ct, osl, e, lk, hcd, _, _⟩ := F.ex
  obtain ⟨c, rfl⟩ := He.codeIn_ref hcd
  have ec : fd.code = .ref c := by rw [e]
  refine ⟨c, He.tabOf K c, ec, List.mem_map.mpr ⟨d, hd, ?_⟩⟩
  have := He.codeOf_eq lk ec
  unfold He.cT
  rw [this]
section
variable {fa : List He.Fa} {fn : List He.DefD} {ex : PySem.W.Frag → Bool} {w : World} {h : Heap} {K : PySem.W.Frag}
theorem cs_all {P : Addr × Addr → Prop} (q : ∀ p ∈ fn.map (·.at_), P (He.cT K p)) : ∀ p ∈ csOf K fn, P p := fun p hp => by
  obtain ⟨d, hd, rfl⟩ := List.mem_map.mp hp
  exact q d.at_ (List.mem_map.mpr ⟨d, hd, rfl⟩)
theorem cs_empty (s : He.SaysX fa fn [] (fn.map (·.at_)) ex w h K) : ∀ p ∈ csOf K fn, h.get? p.2 = some { cls := .none, data := .fields #[] } := cs_all s.empty
theorem cs_out (s : He.SaysX fa fn [] (fn.map (·.at_)) ex w h K) : ∀ p ∈ csOf K fn, K.lookup p.2 = none := cs_all s.out
theorem cs_hd (KX : K.In h) (s : He.SaysX fa fn [] (fn.map (·.at_)) ex w h K) : ∀ p ∈ csOf K fn, PySem.W.CodeHd h p.1 p.2 := cs_all fun p hp => PySem.W.codeHd_of_K KX (s.hd p hp)
end
/-- the law -/
theorem walk {l : PySem.W.OpenLaw} {n k : Nat} {q : Program} {loose : List Str} {XP : (Str → Option Value) → Heap → Prop} {YP : World → Heap → Prop} {d : DefRec} {Pg : Prog} {bf : List (Str × String)} {f : Str} {fn : Fn}
    (hn : l.most = some n) (hn2 : n ≤ sizeLine) (hdf : d.params.defaults = []) (hr : Room (perCall * k) callerA) (hf : Pg.get f = some fn) (h1 : fn.ps = 1) (hname : fn.name = d.name)
    (F : ∀ (w : World) (mg : Str → Option Value) (fa : Addr) (h : Heap),
                                                                YP w h → h.Ns mainGlobals mg → mg d.name = some (.ref fa) →
      ∃ (K : PySem.W.Frag) (cs : List (Addr × Addr)), K.In h ∧ (∀ a o, K.lookup a = some o → o.cls ≠ .type "list") ∧ Surr K cs mg Pg bf ∧ (∀ p ∈ cs, h.get? p.2 = some { cls := .none, data := .fields #[] }) ∧ (∀ p ∈ cs, K.lookup p.2 = none) ∧ (∀ p ∈ cs, PySem.W.CodeHd h p.1 p.2) ∧
        ∃ (dd : FnDat) (x : Str), FnAt K cs mg Pg bf fn dd ∧ dd.ps = [x] ∧ ∀ (s : Shared) (u : Value), BindsTo s dd.fd ⟨[u], []⟩ [(x, u)])
    (hrun : ∀ ns : List Int, ns.length ≤ n → (∀ z ∈ ns, Builtin.Int.intBits z ≤ 1048576) → ∃ fuel h', run Pg fuel k f [.lst (ns.map .int)] [] = some (.bl true, h')) :
    PySem.W.WalkO q loose XP YP l.row.toRowW d [] (fun
                                                                f vs => PySem.call f vs) := by
  refine Att.attach_callB hn hdf fun w s₀ s₁ mg mb fa o pm cd doc a
                                                              vs ns G Y ho hd hcd hmg hobj hints hlen hbits hg => ?_
  obtain ⟨K, cs, KX, nl, su, t1, t2, t3, dd, x, A, hx, hb⟩ := F w mg fa _ Y G.T.g hmg
  have ea : dd.addr = fa := by
    have e1 := A.mg
    rw [hname, hmg] at e1
    cases e1; rfl
  obtain ⟨fuel, h', erun⟩ := hrun ns hlen hbits
  have hF : ∀ base : Heap, K.In base → base.Ns mainGlobals mg → (∀ p ∈ cs, LamX.TabB base mg p.1 p.2) → FnOk l.prog w K mg base CX0 (perCall * k) fa dd.fd [x] (spRun K (tabs cs) ⟨run Pg fuel k, fuel⟩ f 1) := fun base _ _ tb => by
    have := fn_ok (P := l.prog) (w := w) (base := base) (fuel := fuel) su tb k f fn dd hf A
    rw [ea, hx, h1] at this
    exact this
  refine LamX.law_callTs KX G.T.g G.T.b G.T.builtins G.T.nolimit hg t1 t2 t3 G.T.bmain hobj hints (Nat.le_trans hlen hn2) hr hF hb (fun H hO hS => ?_) fun H e s' z => z
  have rd : Rd H a (.lst (ns.map V.int)) := by
    rcases hS with hS | ⟨o, its, m, hk, hc, _⟩
    · exact hS
    · exact absurd hc (nl _ _ hk)
  have hin : ∀ ns : List Int, Reps K NoP [] H (ns.map V.int) (ns.map D.int) := fun ns => by
    induction ns with
    | nil => exact .nil
    | cons i r ih => exact .cons (.int i) ih
  refine ⟨NoP, [], [.lst (ns.map .int)], [], .bl true, h', ⟨rfl, List.nodup_nil, fun n o a z => by simp at z, fun a z => absurd z (by simp), fun _ z => z.elim, fun P t => GX.GT.of (H := H) (S := tabs cs) (fun Q ⟨c, z⟩ => hO (c, Q) z) t⟩, .cons (.lst rd (fun z => z) (hin ns)) .nil, rfl, erun, fun v H' W' ρ' cr x r => ?_⟩
  cases r
  rfl
end MP

/-! MP: plain lemmas: bounds of ints, quotients. -/
namespace MP
open PySem
open PySem.Spec
open PyProof.Rows
open L2

/-! ### loops -/
section
variable {tst : Env → Hh → Option (Bool × Hh)} {body : Env → Hh → Option (Fl × Hh)} {tg : D → Env → Option Env} {n : Nat} {s s1 s2 : Env} {h h1 h2 : Hh} {d : D} {r : List D}
theorem while_go (e1 : tst s h = some (true, h1)) (e2 : body s h1 = some (.nx s2, h2)) : whileL tst body (n + 1) s h = whileL tst body n s2 h2 := by
  rw [whileL, e1]; simp [e2]
theorem while_stop (e1 : tst s h = some (false, h1)) : whileL tst body (n + 1) s h = some (.nx s, h1) := by
  rw [whileL, e1]; simp
theorem while_ret (e1 : tst s h = some (true, h1)) (e2 : body s h1 = some (.rt d, h2)) : whileL tst body (n + 1) s h = some (.rt d, h2) := by
  rw [whileL, e1]; simp [e2]
theorem for_nil : forL tg body [] s h = some (.nx s, h) := by rw [forL]
theorem for_go (e1 : tg d s = some s1) (e2 : body s1 h = some (.nx s2, h2)) : forL tg body (d :: r) s h = forL tg body r s2 h2 := by
  rw [forL, e1]; simp [e2]
theorem for_ret {v : D} (e1 : tg d s = some s1) (e2 : body s1 h = some (.rt v, h2)) : forL tg body (d :: r) s h = some (.rt v, h2) := by
  rw [forL, e1]; simp [e2]
end

/-! ### comprehensions -/
section
variable {α : Type} {tst : Env → Hh → Option (Bool × Hh)} {elt : Env → Hh → Option (D × Hh)} {tg : D → Env → Option Env} {s : Env} {h : Hh}
theorem comp_go {s1 : Env} {h1 h2 h3 : Hh} {d q : D} {r z : List D} (e1 : tg d s = some s1) (e2 : tst s1 h = some (true, h1)) (e3 : elt s1 h1 = some (q, h2)) (e4 : compL tg tst elt s r h2 = some (z, h3)) (hl : z.length < most) :
    compL tg tst elt s (d :: r) h = some (q :: z, h3) := by
  rw [compL, e1]; simp [e2, e3, e4, hl]
theorem comp_skip {s1 : Env} {h1 : Hh} {d : D} {r : List D} (e1 : tg d s = some s1) (e2 : tst s1 h = some (false, h1)) : compL tg tst elt s (d :: r) h = compL tg tst elt s r h1 := by
  rw [compL, e1]; simp [e2]
theorem comp_map {g f : α → D} : ∀ {xs : List α}, (∀ x ∈ xs, ∃ s1, tg (g x) s = some s1 ∧ tst s1 h = some (true, h) ∧ elt s1 h = some (f x, h)) → xs.length ≤ most → compL tg tst elt s (xs.map g) h = some (xs.map f, h)
  | [], _, _ => by simp [compL]
  | x :: xs, H, hl => by
    obtain ⟨s1, e1, e2, e3⟩ := H x (by simp)
    simp only [List.length_cons] at hl
    exact comp_go e1 e2 e3 (comp_map (fun y hy => H y (by simp [hy])) (by omega)) (by rw [List.length_map]; omega)
theorem comp_filter {p : α → Bool} {g f : α → D} : ∀ {xs : List α}, (∀ x ∈ xs, ∃ s1, tg (g x) s = some s1 ∧ tst s1 h = some (p x, h) ∧ (p x = true → elt s1 h = some (f x, h))) → xs.length ≤ most → compL tg tst elt s (xs.map g) h = some ((xs.filter p).map f, h)
  | [], _, _ => by simp [compL]
  | x :: xs, H, hl => by
    obtain ⟨s1, e1, e2, e3⟩ := H x (by simp)
    simp only [List.length_cons] at hl
    have ih := comp_filter (xs := xs) (fun y hy => H y (by simp [hy])) (by omega)
    cases hp : p x with
    | true =>
      rw [hp] at e2
      rw [List.filter_cons, if_pos hp, List.map_cons, List.map_cons]
      exact comp_go e1 e2 (e3 hp) ih (by have := List.length_filter_le p xs; rw [List.length_map]; omega)
    | false =>
      rw [hp] at e2
      rw [List.filter_cons, if_neg (by rw [hp]; decide), List.map_cons]
      exact (comp_skip e1 e2).trans ih
end

/-! ### sizes -/
/-- below 2 to the p -/
def Bd (p : Nat) (i : Int) : Prop := i.natAbs < 2 ^ p
theorem Bd.mono {p q : Nat} {i : Int} (h : Bd p i) (hq : p ≤ q) : Bd q i := Nat.lt_of_lt_of_le h (Nat.pow_le_pow_right (by decide) hq)
theorem Bd.mul {p q : Nat} {i j : Int} (h : Bd p i) (k : Bd q j) : Bd (p + q) (i * j) := by
  unfold Bd at *
  rw [Int.natAbs_mul,
                                                              Nat.pow_add]
  rcases Nat.eq_zero_or_pos i.natAbs with z | z
  · rw [z, Nat.zero_mul]; exact Nat.mul_pos (Nat.pow_pos (by decide)) (Nat.pow_pos (by decide))
  · exact Nat.lt_of_lt_of_le (Nat.mul_lt_mul_of_pos_left k z) (Nat.mul_le_mul_right _ (Nat.le_of_lt h))
theorem Bd.add {p : Nat} {i j : Int} (h : Bd p i) (k : Bd p j) : Bd (p + 1) (i + j) := by
  unfold Bd at *
  have := Int.natAbs_add_le i j
  rw [Nat.pow_succ]; omega
theorem Bd.sub {p : Nat} {i j : Int} (h : Bd p i) (k : Bd p j) : Bd (p + 1) (i - j) := by
  unfold Bd at *
  have := Int.natAbs_sub_le i j
  rw [Nat.pow_succ]; omega
theorem Bd.neg {p : Nat} {i : Int} (h : Bd p i) : Bd p (-i) := by unfold Bd at *; rw [Int.natAbs_neg]; exact h
theorem Bd.le {p : Nat} {i j : Int} (h : Bd p i) (k : j.natAbs ≤ i.natAbs) : Bd p j := Nat.lt_of_le_of_lt k h
theorem Bd.log {p : Nat} {i : Int} (h : Bd p i) : i.natAbs.log2 ≤ p := by
  rcases Nat.eq_zero_or_pos i.natAbs with z | z
  · rw [z]; simp
  · exact Nat.le_of_lt ((Nat.log2_lt (Nat.ne_of_gt z)).mpr h)
theorem Bd.mulOk {p q : Nat} {i j : Int} (h : Bd p i) (k : Bd q j) (hpq : p + q < bitsMost) : i.natAbs.log2 + j.natAbs.log2 < bitsMost :=
  Nat.lt_of_le_of_lt (Nat.add_le_add h.log k.log) hpq
/-- a divisor of fewer than 9000 bits -/
theorem noPylong {i j : Int} (h : Bd 9000 j) : Builtin.divisionGoesByPylong i j = false := by
  have hl : (if (j == 0) = true then 0 else j.natAbs.log2 / 30 + 1) ≤ 300 := by
    split
    · omega
    · rename_i hz
      have hj : j.natAbs ≠ 0 := by
        intro z
        apply hz
        simp [Int.natAbs_eq_zero.mp z]
      have : j.natAbs.log2 < 9000 := (Nat.log2_lt hj).mpr h
      omega
  unfold Builtin.divisionGoesByPylong
  simp only [Bool.and_eq_false_iff]
  left
  exact decide_eq_false
                                                              (by omega)

/-! ### quotients -/
/-- a quotient as the program has it -/
def q2 (q : Rat) : D := .tup [.int q.num, .int q.den]
theorem q2_inj {p q : Rat} : q2 p = q2 q ↔ p = q := by
  constructor
  · intro h
    unfold q2 at h
    injection h with h
    injection h with h1 h2
    injection h1 with h1
    injection h2 with h2 _
    injection h2 with h2
    exact Rat.ext h1 (by exact_mod_cast h2)
  · rintro rfl; rfl
theorem gcd_ne {a b : Int} (hb : b ≠ 0) : 0 < Nat.gcd a.natAbs b.natAbs := Nat.gcd_pos_of_pos_right _ (by omega)
theorem mk_num {a b : Int} (hb : 0 < b) : a.fdiv (Nat.gcd a.natAbs b.natAbs : Nat) = (Rat.divInt a b).num := by
  rw [Rat.num_divInt, Int.sign_eq_one_of_pos hb, Int.one_mul, Int.fdiv_eq_ediv, if_pos (.inl (Int.natCast_nonneg _)), Int.sub_zero]
  have : Int.gcd b a = Nat.gcd a.natAbs b.natAbs := by rw [Int.gcd_comm]; rfl
  rw [this]
theorem mk_den {a b : Int} (hb : 0 < b) : b.fdiv (Nat.gcd a.natAbs b.natAbs : Nat) = ((Rat.divInt a b).den : Int) := by
  rw [Rat.den_divInt, if_neg (by omega), Int.fdiv_eq_ediv, if_pos (.inl (Int.natCast_nonneg _)), Int.sub_zero]
  have : Int.gcd b a = Nat.gcd a.natAbs b.natAbs := by rw [Int.gcd_comm]; rfl
  rw [this, Int.natCast_ediv]
  congr 1
  omega
theorem divInt_neg_neg (a b : Int) : Rat.divInt (-a) (-b) = Rat.divInt a b := by
  by_cases hb : b = 0
  · subst hb; simp
  · rw [Rat.divInt_eq_divInt_iff (by omega) hb]
    simp [Int.neg_mul, Int.mul_neg]
/-- what is left of above and below -/
theorem mk_q2 {a b : Int} (hb : 0 < b) : D.tup [.int (a.fdiv (Nat.gcd a.natAbs b.natAbs : Nat)), .int (b.fdiv (Nat.gcd a.natAbs b.natAbs : Nat))] = q2 (Rat.divInt a b) := by
  unfold q2; rw [mk_num hb, mk_den hb]
theorem den_bd {a b : Int} {p : Nat} (hb : b ≠ 0) (h : Bd p b) : Bd p ((Rat.divInt a b).den : Int) := by
  refine h.le ?_
  rw [Rat.den_divInt, if_neg hb]
  simp only [Int.natAbs_natCast]
  exact Nat.div_le_self _ _
theorem num_bd {a b : Int} {p : Nat} (h : Bd p a) : Bd p (Rat.divInt a b).num := by
  refine h.le ?_
  rw [Rat.num_divInt]
  have h1 : (b.sign * a / (b.gcd a : Nat)).natAbs ≤ (b.sign * a).natAbs := Int.natAbs_ediv_le_natAbs _ _
  refine Nat.le_trans h1 ?_
  rw [Int.natAbs_mul]
  have : b.sign.natAbs ≤ 1 := by
    rcases Int.lt_trichotomy b 0 with z | z | z
    · rw [Int.sign_eq_neg_one_of_neg z]; decide
    · rw [z]; decide
    · rw [Int.sign_eq_one_of_pos z]; decide
  calc b.sign.natAbs * a.natAbs ≤ 1 * a.natAbs := Nat.mul_le_mul_right _ this
    _ = a.natAbs := Nat.one_mul _
theorem den_pos (q : Rat) : (0 : Int) < q.den := by have := q.den_pos; omega
theorem add_q (x y : Rat) : Rat.divInt (x.num * y.den + y.num * x.den) (x.den * y.den) = x + y := by
  have hx : (x.den : Int) ≠ 0 := by have := den_pos x; omega
  have hy : (y.den : Int) ≠ 0 := by have := den_pos y; omega
  rw [← Rat.divInt_add_divInt _ _ hx hy, Rat.num_divInt_den, Rat.num_divInt_den]
theorem sub_q (x y : Rat) : Rat.divInt (x.num * y.den - y.num * x.den) (x.den * y.den) = x - y := by
  have hx : (x.den : Int) ≠ 0 := by have := den_pos x; omega
  have hy : (y.den : Int) ≠ 0 := by have := den_pos y; omega
  rw [← Rat.divInt_sub_divInt _ _ hx hy, Rat.num_divInt_den, Rat.num_divInt_den]
theorem mul_q (x y : Rat) : Rat.divInt (x.num * y.num) (x.den * y.den) = x * y := by
  rw [← Rat.divInt_mul_divInt, Rat.num_divInt_den, Rat.num_divInt_den]
theorem div_q (x y : Rat) : Rat.divInt (x.num * y.den) (x.den * y.num) = x / y := by
  rw [← Rat.divInt_mul_divInt, Rat.num_divInt_den, Rat.div_def, ← Rat.inv_divInt, Rat.num_divInt_den]
end MP

/-! MP: defs that many laws have, and what they do. -/
namespace MP
open PySem
open PySem.Spec
open PyProof.Rows
open L2

def b_make : Ss := (.cons (.ifs (.cmp .Lt (.var 1) (.lit (.int 0))) (.cons (.par2 0 1 (.bin .Sub (.lit (.int 0)) (.var 0)) (.bin .Sub (.lit (.int 0)) (.var 1))) .nil) .nil) (.cons (.set 2 (.pr .gcd (.cons (.var 0) (.cons (.var 1) .nil)))) (.cons (.ret (.tup (.cons (.bin .FloorDiv (.var 0) (.var 2)) (.cons (.bin .FloorDiv (.var 1) (.var 2)) .nil)))) .nil)))
def f_make : Fn := ⟨"make", ["above", "below", "part"], 2, b_make⟩
def b_add : Ss := (.cons (.ret (.call "make" (.cons (.bin .Add (.bin .Mult (.idx (.var 0) (.lit (.int 0))) (.idx (.var 1) (.lit (.int 1)))) (.bin .Mult (.idx (.var 1) (.lit (.int 0))) (.idx (.var 0) (.lit (.int 1))))) (.cons (.bin .Mult (.idx (.var 0) (.lit (.int 1))) (.idx (.var 1) (.lit (.int 1)))) .nil)))) .nil)
def f_add : Fn := ⟨"add", ["x", "y"], 2, b_add⟩
def b_less : Ss := (.cons (.ret (.call "make" (.cons (.bin .Sub (.bin .Mult (.idx (.var 0) (.lit (.int 0))) (.idx (.var 1) (.lit (.int 1)))) (.bin .Mult (.idx (.var 1) (.lit (.int 0))) (.idx (.var 0) (.lit (.int 1))))) (.cons (.bin .Mult (.idx (.var 0) (.lit (.int 1))) (.idx (.var 1) (.lit (.int 1)))) .nil)))) .nil)
def f_less : Fn := ⟨"less", ["x", "y"], 2, b_less⟩
def b_times : Ss := (.cons (.ret (.call "make" (.cons (.bin .Mult (.idx (.var 0) (.lit (.int 0))) (.idx (.var 1) (.lit (.int 0)))) (.cons (.bin .Mult (.idx (.var 0) (.lit (.int 1))) (.idx (.var 1) (.lit (.int 1)))) .nil)))) .nil)
def f_times : Fn := ⟨"times", ["x", "y"], 2, b_times⟩
def b_over : Ss := (.cons (.ret (.call "make" (.cons (.bin .Mult (.idx (.var 0) (.lit (.int 0))) (.idx (.var 1) (.lit (.int 1)))) (.cons (.bin .Mult (.idx (.var 0) (.lit (.int 1))) (.idx (.var 1) (.lit (.int 0)))) .nil)))) .nil)
def f_over : Fn := ⟨"over", ["x", "y"], 2, b_over⟩
def r__law_state_0 : Src := (.of (.var 0))
def k__law_state_0 : Ss := (.cons (.set 1 (.bin .Mod (.pr .int (.cons (.bin .Add (.bin .Mult (.var 1) (.lit (.int 31))) (.var 2)) .nil)) (.lit (.int 1000003)))) .nil)
def l__law_state_0 : S := .forr (.nm 2) r__law_state_0 k__law_state_0
def r__law_state_1 : Src := (.of (.var 0))
def e__law_state_1 : E := (.pr .abs (.cons (.var 2) .nil))
def c__law_state_1 : E := .comp [2] e__law_state_1 (.nm 2) r__law_state_1 .no
def b__law_state : Ss := (.cons (.set 1 (.lit (.int 7))) (.cons (l__law_state_0) (.cons (.ret (.new (.lst (.cons (.new c__law_state_1) (.cons (.bin .Add (.var 1) (.lit (.int 1))) .nil))))) .nil)))
def f__law_state : Fn := ⟨"_law_state", ["script", "seed", "cell"], 1, b__law_state⟩
def t__law_draw_0 : E := (.bop true (.cons (.cmp .Gt (.pr .len (.cons (.var 2) .nil)) (.lit (.int 0))) (.cons (.cmp .Eq (.idx (.var 2) (.lit (.int 0))) (.lit (.int 0))) .nil)))
def k__law_draw_0 : Ss := (.cons (.exp (.pop0 (.var 2) (.lit (.int 0)))) .nil)
def l__law_draw_0 : S := .while t__law_draw_0 k__law_draw_0
def b__law_draw : Ss := (.cons (.set 2 (.idx (.var 0) (.lit (.int 0)))) (.cons (l__law_draw_0) (.cons (.ifs (.cmp .Gt (.pr .len (.cons (.var 2) .nil)) (.lit (.int 0))) (.cons (.set 4 (.idx (.var 2) (.lit (.int 0)))) (.cons (.setir (.var 2) (.lit (.int 0)) (.bin .FloorDiv (.var 4) (.var 1))) (.cons (.ret (.bin .Mod (.pr .int (.cons (.var 4) .nil)) (.var 1))) .nil))) .nil) (.cons (.set 3 (.bin .Mod (.pr .int (.cons (.bin .Add (.bin .Mult (.idx (.var 0) (.lit (.int 1))) (.lit (.int 48271))) (.lit (.int 12345))) .nil)) (.lit (.int 2147483647)))) (.cons (.setir (.var 0) (.lit (.int 1)) (.var 3)) (.cons (.ret (.bin .Mod (.pr .int (.cons (.bin .FloorDiv (.var 3) (.lit (.int 64))) .nil)) (.var 1))) .nil))))))
def f__law_draw : Fn := ⟨"_law_draw", ["state", "many", "cells", "mixed", "value"], 2, b__law_draw⟩
def t__law_gcd_0 : E := (.cmp .NotEq (.var 1) (.lit (.int 0)))
def k__law_gcd_0 : Ss := (.cons (.par2 0 1 (.var 1) (.bin .Mod (.pr .int (.cons (.var 0) .nil)) (.var 1))) .nil)
def l__law_gcd_0 : S := .while t__law_gcd_0 k__law_gcd_0
def b__law_gcd : Ss := (.cons (.par2 0 1 (.pr .max2 (.cons (.var 0) (.cons (.bin .Sub (.lit (.int 0)) (.var 0)) .nil))) (.pr .max2 (.cons (.var 1) (.cons (.bin .Sub (.lit (.int 0)) (.var 1)) .nil)))) (.cons (l__law_gcd_0) (.cons (.ret (.var 0)) .nil)))
def f__law_gcd : Fn := ⟨"_law_gcd", ["a", "b"], 2, b__law_gcd⟩
def b__law_make : Ss := (.cons (.ifs (.cmp .Lt (.var 1) (.lit (.int 0))) (.cons (.par2 0 1 (.bin .Sub (.lit (.int 0)) (.var 0)) (.bin .Sub (.lit (.int 0)) (.var 1))) .nil) .nil) (.cons (.set 2 (.call "_law_gcd" (.cons (.var 0) (.cons (.var 1) .nil)))) (.cons (.ret (.tup (.cons (.bin .FloorDiv (.var 0) (.var 2)) (.cons (.bin .FloorDiv (.var 1) (.var 2)) .nil)))) .nil)))
def f__law_make : Fn := ⟨"_law_make", ["a", "b", "part"], 2, b__law_make⟩

section
variable {P : Prog} {fuel n : Nat} {h : Hh}
theorem make_run (i : P.get "make" = some f_make) {a b : Int} (hb : b ≠ 0) (hs : Bd 9000 b) : run P fuel (n + 1) "make" [.int a, .int b] h = some (q2 (Rat.divInt a b), h) := by
  have h2 : Bd 9000 ((Nat.gcd a.natAbs b.natAbs : Nat) : Int) := hs.le (by
    rw [Int.natAbs_natCast]; exact Nat.gcd_le_right _ (by omega))
  rw [run, i]
  by_cases hlt : b < 0
  · have e := mk_q2 (a := -a) (b := -b) (by omega)
    rw [divInt_neg_neg, Int.natAbs_neg, Int.natAbs_neg] at e
    simp [f_make, b_make, startE, evSs, evS, evTst, evE, evEs, binD, cmpD, prD, isB, hlt, retOf, noPylong h2, asgT, most, bitsMost, hb, e]
  · have e := mk_q2 (a := a) (b := b) (by omega)
    simp [f_make, b_make, startE, evSs, evS, evTst, evE, evEs, binD, cmpD, prD, isB, hlt, retOf, noPylong h2, asgT, most, bitsMost, hb, e]
theorem gcd_loop {c : Cfg} : ∀ (m : Nat) (a b : Nat), b ≤ m → whileL (fun s h => evTst c t__law_gcd_0 s h) (fun s h => evSs c k__law_gcd_0 s h) (m + 1) [.v (.int a), .v (.int b)] h =
    some (.nx [.v (.int (Nat.gcd a b : Nat)), .v (.int 0)], h)
  | m, a, 0, _ => by
    rw [while_stop (h1 := h) (by simp [t__law_gcd_0, evTst, evE, cmpD, eqD, eqOk, isB])]
    simp
  | 0, a, b + 1, hb => by omega
  | m + 1, a, b + 1, hb => by
    have ih := gcd_loop (c := c) m (b + 1) (a % (b + 1)) (by have := Nat.mod_lt a (Nat.succ_pos b); simp at this; omega)
    have e1 : (Int.fmod (a : Int) ((b + 1 : Nat) : Int)) = ((a % (b + 1) : Nat) : Int) := by
      rw [Int.fmod_eq_emod, if_pos (.inl (Int.natCast_nonneg _)), Int.add_zero]; rfl
    have e2 : Nat.gcd (b + 1) (a % (b + 1)) = Nat.gcd a (b + 1) := by rw [Nat.gcd_comm, ← Nat.gcd_rec, Nat.gcd_comm]
    have ne : ((b + 1 : Nat) : Int) ≠ 0 := by omega
    rw [e2] at ih
    rw [while_go (h1 := h) (s2 := [.v (.int ((b + 1 : Nat) : Int)), .v (.int ((a % (b + 1) : Nat) : Int))]) (h2 := h) _ _, ih]
    · generalize ((b + 1 : Nat) : Int) = z at *
      simp [t__law_gcd_0, evTst, evE, cmpD, eqD, eqOk, isB, ne]
    · rw [← e1]
      generalize ((b + 1 : Nat) : Int) = z at *
      simp [k__law_gcd_0, evSs, evS, evE, evEs, prD, binD, ne]
theorem gcd_run (i : P.get "_law_gcd" = some f__law_gcd) {a b : Int} (hf : b.natAbs < fuel) : run P fuel (n + 1) "_law_gcd" [.int a, .int b] h = some (.int (Nat.gcd a.natAbs b.natAbs : Nat), h) := by
  have hm : ∀ a : Int, (if a < -a then -a else a) = (a.natAbs : Int) := fun a => by split <;> omega
  obtain ⟨m, rfl⟩ : ∃ m, fuel = m + 1 := ⟨fuel - 1, by omega⟩
  have l := gcd_loop (h := h) (c := ⟨run P (m + 1) n, m + 1⟩) m a.natAbs b.natAbs (by omega)
  have l2 : evS ⟨run P (m + 1) n, m + 1⟩ l__law_gcd_0 [.v (.int a.natAbs), .v (.int b.natAbs)] h = some (.nx [.v (.int (Nat.gcd a.natAbs b.natAbs : Nat)), .v (.int 0)], h) := by
    rw [l__law_gcd_0, evS, l]
  rw [run, i]
  simp [f__law_gcd, b__law_gcd, startE, evSs, evS, evE, evEs, prD, binD, hm, l2, retOf]
theorem lmake_run (i : P.get "_law_make" = some f__law_make) (j : P.get "_law_gcd" = some f__law_gcd) {a b : Int} (hb : b ≠ 0) (hs : Bd 9000 b) (hf : b.natAbs < fuel) : run P fuel (n + 2) "_law_make" [.int a, .int b] h = some (q2 (Rat.divInt a b), h) := by
  have h2 : Bd 9000 ((Nat.gcd a.natAbs b.natAbs : Nat) : Int) := hs.le (by
    rw [Int.natAbs_natCast]; exact Nat.gcd_le_right _ (by omega))
  rw [run, i]
  by_cases hlt : b < 0
  · have e := mk_q2 (a := -a) (b := -b) (by omega)
    rw [divInt_neg_neg, Int.natAbs_neg, Int.natAbs_neg] at e
    have g := gcd_run (fuel := fuel) (n := n) (h := h) j (a := -a) (b := -b) (by omega)
    rw [Int.natAbs_neg, Int.natAbs_neg] at g
    simp [f__law_make, b__law_make, startE, evSs, evS, evTst, evE, evEs, binD, cmpD, prD, isB, hlt, retOf, noPylong h2, asgT, most, bitsMost, hb, e, g]
  · have e := mk_q2 (a := a) (b := b) (by omega)
    have g := gcd_run (fuel := fuel) (n := n) (h := h) j (a := a) (b := b) hf
    simp [f__law_make, b__law_make, startE, evSs, evS, evTst, evE, evEs, binD, cmpD, prD, isB, hlt, retOf, noPylong h2, asgT, most, bitsMost, hb, e, g]
/-! ### add, less, times, over -/
theorem idx_q0 {x : Rat} : idxD h (q2 x) (.int 0) = some (.int x.num) := by simp [idxD, q2, atI, ixN]
theorem idx_q1 {x : Rat} : idxD h (q2 x) (.int 1) = some (.int x.den) := by simp [idxD, q2, atI, ixN]
theorem eq_q2 {x y : Rat} : eqD (q2 x) (q2 y) = some (decide (x = y)) := by
  have e : decide (q2 x = q2 y) = decide (x = y) := by simp [q2_inj]
  have o : ∀ x : Rat, eqOk 60 (q2 x) = true := fun x => by simp [q2, eqOk, eqOks]
  have z : eqD (q2 x) (q2 y) = (if eqOk 60 (q2 x) && eqOk 60 (q2 y) then some (decide (q2 x = q2 y)) else none) := rfl
  rw [z, o, o, e]
  rfl
theorem eq_int {i j : Int} : eqD (.int i) (.int j) = some (decide (i = j)) := by simp [eqD, eqOk]
theorem mulN {p q : Nat} {i j : Int} (h : Bd p i) (k : Bd q j) (hpq : p + q < 9000) : i.natAbs.log2 + j.natAbs.log2 < bitsMost := h.mulOk k (by unfold bitsMost; omega)
/-- a quotient whose numbers have few bits -/
def Bq (p : Nat) (q : Rat) : Prop := Bd p q.num ∧ Bd p (q.den : Int)
theorem add_run (i : P.get "add" = some f_add) (j : P.get "make" = some f_make) {x y : Rat} {p q : Nat} (hx : Bq p x) (hy : Bq q y) (hp : p + q < 9000) : run P fuel (n + 2) "add" [q2 x, q2 y] h = some (q2 (x + y), h) := by
  have dx := den_pos x
  have dy := den_pos y
  have m1 := mulN hx.1 hy.2 hp
  have m2 := mulN hy.1 hx.2 (by omega : q + p < 9000)
  have m3 := mulN hx.2 hy.2 hp
  have m4 := mulN hx.1 hy.1 hp
  have m5 := mulN hx.2 hy.1 hp
  have mk := make_run (fuel := fuel) (n := n) (h := h) j (a := x.num * y.den + y.num * x.den) (b := x.den * y.den) (Int.ne_of_gt (Int.mul_pos dx dy)) ((hx.2.mul hy.2).mono (by omega))
  rw [add_q] at mk
  rw [run, i]
  simp only [Int.natAbs_natCast] at m1 m2 m3 m4 m5
  simp [f_add, b_add, startE, evSs, evS, evE, evEs, binD, idx_q0, idx_q1, m1, m2, m3, m4, m5, mk, retOf]
theorem less_run (i : P.get "less" = some f_less) (j : P.get "make" = some f_make) {x y : Rat} {p q : Nat} (hx : Bq p x) (hy : Bq q y) (hp : p + q < 9000) : run P fuel (n + 2) "less" [q2 x, q2 y] h = some (q2 (x - y), h) := by
  have dx := den_pos x
  have dy := den_pos y
  have m1 := mulN hx.1 hy.2 hp
  have m2 := mulN hy.1 hx.2 (by omega : q + p < 9000)
  have m3 := mulN hx.2 hy.2 hp
  have m4 := mulN hx.1 hy.1 hp
  have m5 := mulN hx.2 hy.1 hp
  have mk := make_run (fuel := fuel) (n := n) (h := h) j (a := x.num * y.den - y.num * x.den) (b := x.den * y.den) (Int.ne_of_gt (Int.mul_pos dx dy)) ((hx.2.mul hy.2).mono (by omega))
  rw [sub_q] at mk
  rw [run, i]
  simp only [Int.natAbs_natCast] at m1 m2 m3 m4 m5
  simp [f_less, b_less, startE, evSs, evS, evE, evEs, binD, idx_q0, idx_q1, m1, m2, m3, m4, m5, mk, retOf]
theorem times_run (i : P.get "times" = some f_times) (j : P.get "make" = some f_make) {x y : Rat} {p q : Nat} (hx : Bq p x) (hy : Bq q y) (hp : p + q < 9000) : run P fuel (n + 2) "times" [q2 x, q2 y] h = some (q2 (x * y), h) := by
  have dx := den_pos x
  have dy := den_pos y
  have m1 := mulN hx.1 hy.2 hp
  have m2 := mulN hy.1 hx.2 (by omega : q + p < 9000)
  have m3 := mulN hx.2 hy.2 hp
  have m4 := mulN hx.1 hy.1 hp
  have m5 := mulN hx.2 hy.1 hp
  have mk := make_run (fuel := fuel) (n := n) (h := h) j (a := x.num * y.num) (b := x.den * y.den) (Int.ne_of_gt (Int.mul_pos dx dy)) ((hx.2.mul hy.2).mono (by omega))
  rw [mul_q] at mk
  rw [run, i]
  simp only [Int.natAbs_natCast] at m1 m2 m3 m4 m5
  simp [f_times, b_times, startE, evSs, evS, evE, evEs, binD, idx_q0, idx_q1, m1, m2, m3, m4, m5, mk, retOf]
theorem over_run (i : P.get "over" = some f_over) (j : P.get "make" = some f_make) {x y : Rat} {p q : Nat} (hx : Bq p x) (hy : Bq q y) (hp : p + q < 9000) (hn : y ≠ 0) : run P fuel (n + 2) "over" [q2 x, q2 y] h = some (q2 (x / y), h) := by
  have dx := den_pos x
  have dy := den_pos y
  have m1 := mulN hx.1 hy.2 hp
  have m2 := mulN hy.1 hx.2 (by omega : q + p < 9000)
  have m3 := mulN hx.2 hy.2 hp
  have m4 := mulN hx.1 hy.1 hp
  have m5 := mulN hx.2 hy.1 hp
  have mk := make_run (fuel := fuel) (n := n) (h := h) j (a := x.num * y.den) (b := x.den * y.num) (Int.mul_ne_zero (Int.ne_of_gt dx) (fun e => hn (Rat.num_eq_zero.mp e))) ((hx.2.mul hy.1).mono (by omega))
  rw [div_q] at mk
  rw [run, i]
  simp only [Int.natAbs_natCast] at m1 m2 m3 m4 m5
  simp [f_over, b_over, startE, evSs, evS, evE, evEs, binD, idx_q0, idx_q1, m1, m2, m3, m4, m5, mk, retOf]

/-! ### the draws -/
/-- the heap: the cells, the state, what else there is -/
def stH (cs : List Int) (m : Int) (rest : Hh) : Hh := .lst (cs.map .int) :: .lst [.ref 0, .int m] :: rest
theorem fmod_range {a b : Int} (hb : 0 < b) : 0 ≤ a.fmod b ∧ a.fmod b < b := by
  rw [Int.fmod_eq_emod, if_pos (.inl (Int.le_of_lt hb)), Int.add_zero]
  exact ⟨Int.emod_nonneg _ (by omega), Int.emod_lt_of_pos _ hb⟩
theorem bd_of {p : Nat} {i k : Int} (h0 : -k < i) (h1 : i < k) (hk : k ≤ 2 ^ p) : Bd p i := by
  unfold Bd
  have : ((2 ^ p : Nat) : Int) = 2 ^ p := by norm_cast
  omega
theorem seed_loop {c : Cfg} {sc : D} : ∀ (ns : List Int) (s : Int) (x : Slot), 0 ≤ s → s < 1000003 → ∃ s' x', 0 ≤ s' ∧ s' < 1000003 ∧
    forL (asgT (.nm 2)) (fun s h => evSs c k__law_state_0 s h) (ns.map .int) [.v sc, .v (.int s), x] h = some (.nx [.v sc, .v (.int s'), x'], h)
  | [], s, x, h0, h1 => ⟨s, x, h0, h1, by rw [List.map_nil, for_nil]⟩
  | i :: ns, s, x, h0, h1 => by
    obtain ⟨g0, g1⟩ := fmod_range (a := s * 31 + i) (b := 1000003) (by decide)
    obtain ⟨s', x', q0, q1, e⟩ := seed_loop (c := c) (sc := sc) ns ((s * 31 + i).fmod 1000003) (.v (.int i)) g0 g1
    have hb : Bd 20 s := bd_of (k := 1000003) (by omega) h1 (by decide)
    have m := mulN hb (show Bd 20 31 by unfold Bd; decide) (by decide)
    refine ⟨s', x', q0, q1, ?_⟩
    rw [List.map_cons, for_go (s1 := [.v sc, .v (.int s), .v (.int i)]) (s2 := [.v sc, .v (.int ((s * 31 + i).fmod 1000003)), .v (.int i)]) (h2 := h) (by simp [asgT]) _, e]
    simp only [show (31 : Int).natAbs = 31 from rfl] at m
    simp [k__law_state_0, evSs, evS, evE, evEs, prD, binD, m]
theorem state_run (i : P.get "_law_state" = some f__law_state) {ns : List Int} (hl : ns.length ≤ 1000) : ∃ m, Bd 31 m ∧ run P fuel (n + 1) "_law_state" [.lst (ns.map .int)] [] = some (.ref 1, stH (ns.map fun i => if i < 0 then -i else i) m []) := by
  obtain ⟨s', x', h0, h1, e⟩ := seed_loop (h := []) (c := ⟨run P fuel n, fuel⟩) (sc := .lst (ns.map .int)) ns 7 .un (by decide) (by decide)
  refine ⟨s' + 1, bd_of (k := 1000004) (by omega) (by omega) (by decide), ?_⟩
  have e2 : evS ⟨run P fuel n, fuel⟩ l__law_state_0 [.v (.lst (ns.map .int)), .v (.int 7), .un] [] = some (.nx [.v (.lst (ns.map .int)), .v (.int s'), x'], []) := by
    rw [l__law_state_0, evS, r__law_state_0, evSrc]
    simp [evE, e]
  have e3 : ∀ x', evE ⟨run P fuel n, fuel⟩ c__law_state_1 [.v (.lst (ns.map .int)), .v (.int s'), x'] [] = some (.lst ((ns.map fun i => if i < 0 then -i else i).map .int), []) := fun x' => by
    rw [c__law_state_1, evE, r__law_state_1, evSrc]
    simp only [evE, List.getElem?_cons_zero, Option.bind_some]
    rw [comp_map (f := fun i : Int => D.int (if i < 0 then -i else i)) (fun x hx => ⟨[.v (.lst (ns.map .int)), .v (.int s'), .v (.int x)], by simp [asgT, wipeE], by simp [evIf], by simp [e__law_state_1, evE, evEs, prD]⟩) (by unfold most; omega)]
    simp
  rw [run, i]
  simp [f__law_state, b__law_state, startE, evSs, evS, evE, evEs, e2, e3, binD, most, retOf, stH]
theorem pop_loop {c : Cfg} {a b x y : Slot} {m : Int} {rest : Hh} : ∀ (cs : List Int) (k : Nat), cs.length < k → ∃ cs', (cs' = [] ∨ ∃ z r, cs' = z :: r ∧ z ≠ 0) ∧ cs'.length ≤ cs.length ∧
    whileL (fun s h => evTst c t__law_draw_0 s h) (fun s h => evSs c k__law_draw_0 s h) k [a, b, .v (.ref 0), x, y] (stH cs m rest) = some (.nx [a, b, .v (.ref 0), x, y], stH cs' m rest)
  | cs, 0, hk => by omega
  | [], k + 1, hk => ⟨[], .inl rfl, Nat.le_refl _, by
    rw [while_stop (h1 := stH [] m rest)]
    simp [t__law_draw_0, evTst, evE, evB, evEs, prD, asL, stH, cmpD, isB]⟩
  | z :: cs, k + 1, hk => by
    by_cases hz : z = 0
    · subst hz
      obtain ⟨cs', q1, q2, e⟩ := pop_loop (c := c) (a := a) (b := b) (x := x) (y := y) (m := m) (rest := rest) cs k (by simpa using hk)
      refine ⟨cs', q1, Nat.le_succ_of_le q2, ?_⟩
      rw [while_go (h1 := stH (0 :: cs) m rest) (s2 := [a, b, .v (.ref 0), x, y]) (h2 := stH cs m rest) _ _, e]
      · have : (0 : Int) < (cs.length : Int) + 1 := by omega
        simp [t__law_draw_0, evTst, evE, evB, evEs, prD, asL, stH, cmpD, isB, idxD, atI, ixN, eqD, eqOk, this]
      · simp [k__law_draw_0, evSs, evS, evE, stH, seqIndex?]
    · refine ⟨z :: cs, .inr ⟨z, cs, rfl, hz⟩, Nat.le_refl _, ?_⟩
      rw [while_stop (h1 := stH (z :: cs) m rest)]
      have : (0 : Int) < (cs.length : Int) + 1 := by omega
      simp [t__law_draw_0, evTst, evE, evB, evEs, prD, asL, stH, cmpD, isB, idxD, atI, ixN, eqD, eqOk, this, hz]
theorem draw_run (i : P.get "_law_draw" = some f__law_draw) {cs : List Int} {m many : Int} {rest : Hh} (hf : cs.length < fuel) (hm : Bd 31 m) (h0 : 0 < many) (h1 : Bd 9000 many) :
    ∃ v cs' m', 0 ≤ v ∧ v < many ∧ cs'.length ≤ cs.length ∧ Bd 31 m' ∧ run P fuel (n + 1) "_law_draw" [.ref 1, .int many] (stH cs m rest) = some (.int v, stH cs' m' rest) := by
  obtain ⟨cs', q1, q2, e⟩ := pop_loop (c := ⟨run P fuel n, fuel⟩) (a := .v (.ref 1)) (b := .v (.int many)) (x := .un) (y := .un) (m := m) (rest := rest) cs fuel hf
  have e2 : evS ⟨run P fuel n, fuel⟩ l__law_draw_0 [.v (.ref 1), .v (.int many), .v (.ref 0), .un, .un] (stH cs m rest) = some (.nx [.v (.ref 1), .v (.int many), .v (.ref 0), .un, .un], stH cs' m rest) := by
    rw [l__law_draw_0, evS, e]
  have hne : many ≠ 0 := by omega
  have hpy : ∀ i, Builtin.divisionGoesByPylong i many = false := fun i => noPylong h1
  have e1 : evE ⟨run P fuel n, fuel⟩ (.idx (.var 0) (.lit (.int 0))) [.v (.ref 1), .v (.int many), .un, .un, .un] (stH cs m rest) = some (.ref 0, stH cs m rest) := by
    simp [evE, idxD, asL, stH, atI, ixN]
  rcases q1 with rfl | ⟨z, r, rfl, hz⟩
  · obtain ⟨r0, r1⟩ := fmod_range (a := m * 48271 + 12345) (b := 2147483647) (by decide)
    obtain ⟨g0, g1⟩ := fmod_range (a := ((m * 48271 + 12345).fmod 2147483647).fdiv 64) (b := many) h0
    refine ⟨_, [], (m * 48271 + 12345).fmod 2147483647, g0, g1, Nat.zero_le _, bd_of (k := 2147483647) (by omega) r1 (by decide), ?_⟩
    have m1 := mulN hm (show Bd 20 48271 by unfold Bd; decide) (by decide)
    simp only [show (48271 : Int).natAbs = 48271 from rfl] at m1
    have p64 : ∀ i, Builtin.divisionGoesByPylong i 64 = false := fun i => noPylong (by unfold Bd; exact Nat.lt_of_lt_of_le (by decide : (64 : Int).natAbs < 2 ^ 7) (Nat.pow_le_pow_right (by decide) (by decide)))
    rw [run, i]
    simp [f__law_draw, b__law_draw, startE, evSs, evS, e1, e2, evTst]
    simp [evE, evEs, prD, asL, stH, cmpD, isB, evSs, binD, m1, idxD, atI, ixN, p64, hne, retOf]
  · obtain ⟨g0, g1⟩ := fmod_range (a := z) (b := many) h0
    refine ⟨_, z.fdiv many :: r, m, g0, g1, by simpa using q2, hm, ?_⟩
    have : (0 : Int) < (r.length : Int) + 1 := by omega
    rw [run, i]
    simp [f__law_draw, b__law_draw, startE, evSs, evS, e1, e2, evTst]
    simp [evE, evEs, prD, asL, stH, cmpD, isB, evSs, evS, binD, idxD, atI, ixN, hpy, hne, retOf, this]
end
end MP

/-! MP: what is wanted behind: forward steps through a text. -/
namespace MP
open PySem
open PySem.Spec
open PyProof.Rows
open L2

def W {α : Type} (x : Option (α × Hh)) (Q : α → Hh → Prop) : Prop := ∃ a h, x = some (a, h) ∧ Q a h
def Ob {α : Type} (x : Option α) (Q : α → Prop) : Prop := ∃ a, x = some a ∧ Q a
section
variable {α β : Type} {c : Cfg} {s : Env} {h : Hh} {Q : α → Hh → Prop} {QD : D → Hh → Prop} {QL : List D → Hh → Prop} {QB : Bool → Hh → Prop} {QF : Fl → Hh → Prop} {QO : Option Int → Hh → Prop}
theorem W.of {x : Option (α × Hh)} {a : α} {h : Hh} (e : x = some (a, h)) (q : Q a h) : W x Q := ⟨a, h, e, q⟩
theorem W.imp {x : Option (α × Hh)} {Q' : α → Hh → Prop} (w : W x Q') (q : ∀ a h, Q' a h → Q a h) : W x Q := let ⟨a, h, e, r⟩ := w; ⟨a, h, e, q a h r⟩
theorem Ob.of {x : Option α} {a : α} {P : α → Prop} (e : x = some a) (q : P a) : Ob x P := ⟨a, e, q⟩
theorem Ob.rf {a : α} {P : α → Prop} (q : P a) : Ob (some a) P := ⟨a, rfl, q⟩
theorem w_bind {x : Option (α × Hh)} {f : α × Hh → Option (β × Hh)} {QQ : β → Hh → Prop} (w : W x fun a h => W (f (a, h)) QQ) : W (x.bind f) QQ := by
  obtain ⟨a, h, rfl, b, h', e, q⟩ := w
  exact ⟨b, h', e, q⟩
theorem w_bindo {x : Option α} {f : α → Option (β × Hh)} {QQ : β → Hh → Prop} (w : Ob x fun a => W (f a) QQ) : W (x.bind f) QQ := by
  obtain ⟨a, rfl, b, h', e, q⟩ := w
  exact ⟨b, h', e, q⟩
theorem w_mapo {x : Option α} {h : Hh} {f : α → β} {QQ : β → Hh → Prop} (w : Ob x fun a => QQ (f a) h) : W (x.map fun a => (f a, h)) QQ := by
  obtain ⟨a, rfl, q⟩ := w
  exact ⟨f a, h, rfl, q⟩
theorem w_map {x : Option (α × Hh)} {f : α → β} {QQ : β → Hh → Prop} (w : W x fun a h => QQ (f a) h) : W (x.map fun p => (f p.1, p.2)) QQ := by
  obtain ⟨a, h, rfl, q⟩ := w
  exact ⟨f a, h, rfl, q⟩
theorem w_some {a : α} {h : Hh} (q : Q a h) : W (some (a, h)) Q := ⟨a, h, rfl, q⟩
theorem w_if {p : Prop} [Decidable p] {a : α} {h : Hh} (hp : p) (q : Q a h) : W (if p then some (a, h) else none) Q := by rw [if_pos hp]; exact w_some q

/-! ### values -/
theorem w_var {i : Nat} {d : D} (e : s[i]? = some (.v d)) (q : QD d h) : W (evE c (.var i) s h) QD := by
  rw [evE, e]; exact w_some q
theorem w_own {i : Nat} {l : List D} (e : s[i]? = some (.own l)) (q : QD (.lst l) h) : W (evE c (.own i) s h) QD := by
  rw [evE, e]; exact w_some q
theorem w_gl {x : Str} {d : D} (q : QD d h) : W (evE c (.gl x d) s h) QD := by rw [evE]; exact w_some q
theorem w_lit {d : D} (q : QD d h) : W (evE c (.lit d) s h) QD := by rw [evE]; exact w_some q
theorem w_tup {es : Es} (q : W (evEs c es s h) fun l h => l.length ≤ most ∧ QD (.tup l) h) : W (evE c (.tup es) s h) QD := by
  rw [evE]; exact w_bind (q.imp fun l h ⟨a, b⟩ => w_if a b)
theorem w_lst {es : Es} (q : W (evEs c es s h) fun l h => l.length ≤ most ∧ QD (.lst l) h) : W (evE c (.lst es) s h) QD := by
  rw [evE]; exact w_bind (q.imp fun l h ⟨a, b⟩ => w_if a b)
theorem w_bin {o : Operator} {a b : E} (q : W (evE c a s h) fun x h1 => W (evE c b s h1) fun y h2 => Ob (binD h2 o x y) fun r => QD r h2) : W (evE c (.bin o a b) s h) QD := by
  rw [evE]; exact w_bind (q.imp fun x h1 q => w_bind (q.imp fun y h2 q => w_mapo (f := fun r => r) q))
theorem w_neg {a : E} (q : W (evE c a s h) fun x h1 => ∃ i, x = .int i ∧ QD (.int (-i)) h1) : W (evE c (.neg a) s h) QD := by
  rw [evE]; exact w_bind (q.imp fun x h1 ⟨i, e, q⟩ => by subst e; exact w_some q)
theorem w_cmp {o : CmpOp} {a b : E} (q : W (evE c a s h) fun x h1 => W (evE c b s h1) fun y h2 => Ob (cmpD h2 o x y) fun r => QD (.bl r) h2) : W (evE c (.cmp o a b) s h) QD := by
  rw [evE]; exact w_bind (q.imp fun x h1 q => w_bind (q.imp fun y h2 q => w_mapo q))
theorem w_and1 {k : Bool} {a : E} (q : W (evE c a s h) QD) : W (evE c (.bop k (.cons a .nil)) s h) QD := by
  rw [evE, evB]; exact q
theorem w_and {k : Bool} {a b : E} {r : Es} (q : W (evE c a s h) fun x h1 => ∃ z, x = .bl z ∧ if z = k then W (evE c (.bop k (.cons b r)) s h1) QD else QD (.bl z) h1) : W (evE c (.bop k (.cons a (.cons b r))) s h) QD := by
  rw [evE, evB]
  refine w_bind (q.imp fun x h1 ⟨z, e, q⟩ => ?_)
  subst e
  show W (if z = k then evB c k (.cons b r) s h1 else some (.bl z, h1)) QD
  split at q
  · rename_i e; rw [if_pos e]; rw [evE] at q; exact q
  · rename_i e; rw [if_neg e]; exact w_some q
theorem w_no {a : E} (q : W (evE c a s h) fun x h1 => ∃ z, x = .bl z ∧ QD (.bl (!z)) h1) : W (evE c (.no a) s h) QD := by
  rw [evE]; exact w_bind (q.imp fun x h1 ⟨i, e, q⟩ => by subst e; exact w_some q)
theorem w_tru {a : E} (q : W (evE c a s h) fun x h1 => Ob (truD h1 x) fun z => QD (.bl z) h1) : W (evE c (.tru a) s h) QD := by
  rw [evE]; exact w_bind (q.imp fun x h1 q => w_mapo q)
theorem w_ite {k a b : E} (q : W (evE c k s h) fun x h1 => ∃ z, x = .bl z ∧ if z = true then W (evE c a s h1) QD else W (evE c b s h1) QD) : W (evE c (.ite k a b) s h) QD := by
  rw [evE]
  refine w_bind (q.imp fun x h1 ⟨z, e, q⟩ => ?_)
  subst e
  cases z with
  | true => exact q
  | false => exact q
theorem w_idx {a b : E} (q : W (evE c a s h) fun x h1 => W (evE c b s h1) fun y h2 => Ob (idxD h2 x y) fun r => QD r h2) : W (evE c (.idx a b) s h) QD := by
  rw [evE]; exact w_bind (q.imp fun x h1 q => w_bind (q.imp fun y h2 q => w_mapo (f := fun r => r) q))
theorem w_o0 (q : QO none h) : W (evO c .no s h) QO := by rw [evO]; exact w_some q
theorem w_o1 {a : E} (q : W (evE c a s h) fun x h1 => ∃ i, x = .int i ∧ QO (some i) h1) : W (evO c (.so a) s h) QO := by
  rw [evO]; exact w_bind (q.imp fun x h1 ⟨i, e, q⟩ => by subst e; exact w_some q)
theorem w_slc {a : E} {lo hi : Oe} (q : W (evE c a s h) fun x h1 => W (evO c lo s h1) fun i h2 => W (evO c hi s h2) fun j h3 => Ob (slcD h3 x i j) fun r => QD r h3) : W (evE c (.slc a lo hi) s h) QD := by
  rw [evE]; exact w_bind (q.imp fun x h1 q => w_bind (q.imp fun i h2 q => w_bind (q.imp fun j h3 q => w_mapo (f := fun r => r) q)))
theorem w_call {f : Str} {es : Es} (q : W (evEs c es s h) fun ds h1 => W (c.call f ds h1) QD) : W (evE c (.call f es) s h) QD := by
  rw [evE]; exact w_bind q
theorem w_pr {k : Pr} {es : Es} (q : W (evEs c es s h) fun ds h1 => Ob (prD h1 k ds) fun r => QD r h1) : W (evE c (.pr k es) s h) QD := by
  rw [evE]; exact w_bind (q.imp fun x h1 q => w_mapo (f := fun r => r) q)
theorem w_isi {a : E} {t : Ty} (q : W (evE c a s h) fun x h1 => Ob (isiD h1 t x) fun z => QD (.bl z) h1) : W (evE c (.isi a t) s h) QD := by
  rw [evE]; exact w_bind (q.imp fun x h1 q => w_mapo q)
theorem w_es0 (q : QL [] h) : W (evEs c .nil s h) QL := by rw [evEs]; exact w_some q
theorem w_es1 {a : E} {r : Es} (q : W (evE c a s h) fun d h1 => W (evEs c r s h1) fun l h2 => QL (d :: l) h2) : W (evEs c (.cons a r) s h) QL := by
  rw [evEs]; exact w_bind (q.imp fun x h1 q => w_map (f := fun l => x :: l) q)
theorem w_if0 (q : QB true h) : W (evIf c .no s h) QB := by rw [evIf]; exact w_some q
theorem w_if1 {a : E} (q : W (evE c a s h) fun x h1 => ∃ z, x = .bl z ∧ QB z h1) : W (evIf c (.so a) s h) QB := by
  rw [evIf]; exact w_bind (q.imp fun x h1 ⟨i, e, q⟩ => by subst e; exact w_some q)
theorem w_tst {a : E} (q : W (evE c a s h) fun x h1 => ∃ z, x = .bl z ∧ QB z h1) : W (evTst c a s h) QB := by
  rw [evTst]; exact w_bind (q.imp fun x h1 ⟨i, e, q⟩ => by subst e; exact w_some q)
/-- what a value yields as a source -/
def srcL : D → Option (List D)
  | .tup l => some l
  | .lst l => some l
  | .str x => some (x.map fun z => .str [z])
  | _ => none
theorem w_of {a : E} (q : W (evE c a s h) fun x h1 => Ob (srcL x) fun l => QL l h1) : W (evSrc c (.of a) s h) QL := by
  rw [evSrc]
  refine w_bind (q.imp fun x h1 ⟨l, e, q⟩ => ?_)
  cases x <;> first | (cases e; done) | skip
  · cases e; exact w_some q
  · cases e; exact w_some q
  · cases e; exact w_some q
theorem w_rg1 {a : E} (q : W (evE c a s h) fun x h1 => ∃ i, x = .int i ∧ rgOk i = true ∧ QL (rgD 0 i) h1) : W (evSrc c (.rg1 a) s h) QL := by
  rw [evSrc]
  refine w_bind (q.imp fun x h1 ⟨i, e, r, q⟩ => ?_)
  subst e
  exact w_if r q
theorem w_rg2 {a b : E} (q : W (evE c a s h) fun x h1 => W (evE c b s h1) fun y h2 => ∃ i j, x = .int i ∧ y = .int j ∧ (rgOk i && rgOk j) = true ∧ QL (rgD i j) h2) : W (evSrc c (.rg2 a b) s h) QL := by
  rw [evSrc]
  refine w_bind (q.imp fun x h1 q => w_bind (q.imp fun y h2 ⟨i, j, e1, e2, r, q9⟩ => ?_))
  subst e1 e2
  exact w_if r q9

/-! ### comprehensions, generators -/
theorem w_compL {tg : D → Env → Option Env} {tst : Env → Hh → Option (Bool × Hh)} {elt : Env → Hh → Option (D × Hh)} (I : List D → List D → Hh → Prop) :
    ∀ (items acc : List D) (h : Hh), I items acc h → acc.length + items.length ≤ most →
    (∀ d r acc h, I (d :: r) acc h → Ob (tg d s) fun s1 => W (tst s1 h) fun b h1 => if b = true then W (elt s1 h1) fun x h2 => I r (acc ++ [x]) h2 else I r acc h1) →
    W (compL tg tst elt s items h) fun l h' => I [] (acc ++ l) h'
  | [], acc, h, i, hl, st => by rw [compL]; exact w_some (by simpa using i)
  | d :: r, acc, h, i, hl, st => by
    rw [compL]
    obtain ⟨s1, e1, b, h1, e2, q⟩ := st d r acc h i
    simp only [List.length_cons] at hl
    refine w_bindo ⟨s1, e1, w_bind ⟨b, h1, e2, ?_⟩⟩
    cases b with
    | true =>
      obtain ⟨x, h2, e3, q⟩ := q
      have ih := w_compL I r (acc ++ [x]) h2 q (by simp; omega) st
      have hlen : ∀ {l : List D} {h : Hh} {z : List D × Hh}, compL tg tst elt s l h = some z → z.1.length ≤ l.length := by
        intro l
        induction l with
        | nil => intro h z e; rw [compL] at e; cases e; simp
        | cons d l ih =>
          intro h z e
          rw [compL] at e
          obtain ⟨s1, _, e⟩ := Option.bind_eq_some_iff.mp e
          obtain ⟨⟨b, h1⟩, _, e⟩ := Option.bind_eq_some_iff.mp e
          cases b with
          | true =>
            simp only at e
            obtain ⟨q1, _, e⟩ := Option.bind_eq_some_iff.mp e
            obtain ⟨q2, e5, e⟩ := Option.bind_eq_some_iff.mp e
            split at e
            · cases e; have := ih e5; simp only [List.length_cons]; omega
            · cases e
          | false => have := ih (show compL tg tst elt s l h1 = some z from e); simp only [List.length_cons]; omega
      obtain ⟨l, h3, e4, q4⟩ := ih
      refine w_bind ⟨x, h2, e3, w_bind ⟨l, h3, e4, w_if (Nat.lt_of_le_of_lt (hlen e4) (by omega)) ?_⟩⟩
      simpa using q4
    | false => exact w_compL I r acc h1 q (by omega) st
theorem w_comp {vs : List Nat} {elt : E} {t : T} {src : Src} {ifs : Oe} (q : W (evSrc c src s h) fun items h1 => items.length ≤ most ∧ ∃ I : List D → List D → Hh → Prop, I items [] h1 ∧
    (∀ d r acc h, I (d :: r) acc h → Ob (asgT t d (wipeE s vs)) fun s1 => W (evIf c ifs s1 h) fun b h1 => if b = true then W (evE c elt s1 h1) fun x h2 => I r (acc ++ [x]) h2 else I r acc h1) ∧ ∀ l h', I [] l h' → QD (.lst l) h') : W (evE c (.comp vs elt t src ifs) s h) QD := by
  rw [evE]
  refine w_bind (q.imp fun items h1 ⟨hl, I, i0, st, fin⟩ => ?_)
  exact w_map (f := fun l => D.lst l) ((w_compL I items [] h1 i0 (by simpa using hl) st).imp fun l h' z => fin l h' (by simpa using z))
theorem w_allL {k : Bool} {tg : D → Env → Option Env} {tst : Env → Hh → Option (Bool × Hh)} {elt : Env → Hh → Option (D × Hh)} (I : List D → Hh → Prop) :
    ∀ (items : List D) (h : Hh), I items h →
    (∀ d r h, I (d :: r) h → Ob (tg d s) fun s1 => W (tst s1 h) fun b h1 => if b = true then W (elt s1 h1) fun x h2 => ∃ z, x = .bl z ∧ if z = k then I r h2 else QB z h2 else I r h1) →
    (∀ h, I [] h → QB k h) → W (allL k tg tst elt s items h) QB
  | [], h, i, st, fin => by rw [allL]; exact w_some (fin h i)
  | d :: r, h, i, st, fin => by
    rw [allL]
    obtain ⟨s1, e1, b, h1, e2, q⟩ := st d r h i
    refine w_bindo ⟨s1, e1, w_bind ⟨b, h1, e2, ?_⟩⟩
    cases b with
    | true =>
      obtain ⟨x, h2, e3, z, rfl, q⟩ := q
      refine w_bind ⟨_, h2, e3, ?_⟩
      show W (if z = k then allL k tg tst elt s r h2 else some (z, h2)) QB
      split at q
      · rename_i e; rw [if_pos e]; exact w_allL I r h2 q st fin
      · rename_i e; rw [if_neg e]; exact w_some q
    | false => exact w_allL I r h1 q st fin
theorem w_gen {k : Bool} {vs : List Nat} {elt : E} {t : T} {src : Src} {ifs : Oe} (q : W (evSrc c src s h) fun items h1 => ∃ I : List D → Hh → Prop, I items h1 ∧
    (∀ d r h, I (d :: r) h → Ob (asgT t d (wipeE s vs)) fun s1 => W (evIf c ifs s1 h) fun b h1 => if b = true then W (evE c elt s1 h1) fun x h2 => ∃ z, x = .bl z ∧ if z = k then I r h2 else QD (.bl z) h2 else I r h1) ∧ ∀ h', I [] h' → QD (.bl k) h') : W (evE c (.gen k vs elt t src ifs) s h) QD := by
  rw [evE]
  refine w_bind (q.imp fun items h1 ⟨I, i0, st, fin⟩ => ?_)
  exact w_map (f := fun l => D.bl l) (w_allL (QB := fun b h => QD (.bl b) h) I items h1 i0 st fin)

theorem w_gen1 {k : Bool} {vs : List Nat} {elt : E} {t : T} {src : Src} {ifs : Oe} (q : W (evSrc c src s h) fun items h1 => W (allL k (asgT t) (fun s h => evIf c ifs s h) (fun s h => evE c elt s h) (wipeE s vs) items h1) fun b h => QD (.bl b) h) : W (evE c (.gen k vs elt t src ifs) s h) QD := by
  rw [evE]
  exact w_bind (q.imp fun items h1 q => w_map (f := fun l => D.bl l) q)
theorem w_all0 {k : Bool} {tg : D → Env → Option Env} {tst : Env → Hh → Option (Bool × Hh)} {elt : Env → Hh → Option (D × Hh)} (q : QB k h) : W (allL k tg tst elt s [] h) QB := by rw [allL]; exact w_some q
theorem w_all1 {k : Bool} {tg : D → Env → Option Env} {tst : Env → Hh → Option (Bool × Hh)} {elt : Env → Hh → Option (D × Hh)} {d : D} {r : List D}
    (q : Ob (tg d s) fun s1 => W (tst s1 h) fun b h1 => if b = true then W (elt s1 h1) fun x h2 => ∃ z, x = .bl z ∧ if z = k then W (allL k tg tst elt s r h2) QB else QB z h2 else W (allL k tg tst elt s r h1) QB) : W (allL k tg tst elt s (d :: r) h) QB := by
  rw [allL]
  obtain ⟨s1, e1, b, h1, e2, q⟩ := q
  refine w_bindo ⟨s1, e1, w_bind ⟨b, h1, e2, ?_⟩⟩
  cases b with
  | true =>
    obtain ⟨x, h2, e3, z, rfl, q⟩ := q
    refine w_bind ⟨_, h2, e3, ?_⟩
    show W (if z = k then allL k tg tst elt s r h2 else some (z, h2)) QB
    split at q
    · rename_i e; rw [if_pos e]; exact q
    · rename_i e; rw [if_neg e]; exact w_some q
  | false => exact q

/-! ### statements -/
theorem w_nil (q : QF (.nx s) h) : W (evSs c .nil s h) QF := by rw [evSs]; exact w_some q
/-- what follows a statement -/
@[reducible] def nxt (c : Cfg) (r : Ss) (QF : Fl → Hh → Prop) : Fl → Hh → Prop
  | .nx s, h => W (evSs c r s h) QF
  | fl, h => QF fl h
theorem w_seq {a : S} {r : Ss} (q : W (evS c a s h) (nxt c r QF)) : W (evSs c (.cons a r) s h) QF := by
  rw [evSs]
  refine w_bind (q.imp fun fl h1 q => ?_)
  cases fl with
  | nx s' => exact q
  | _ => exact w_some q
theorem w_set {i : Nat} {e : E} (q : W (evE c e s h) fun d h1 => i < s.length ∧ QF (.nx (s.set i (.v d))) h1) : W (evS c (.set i e) s h) QF := by
  rw [evS]; exact w_bind (q.imp fun x h1 ⟨a, b⟩ => w_if a b)
theorem w_seto {i : Nat} {e : E} (q : W (evE c e s h) fun d h1 => ∃ l, d = .lst l ∧ i < s.length ∧ QF (.nx (s.set i (.own l))) h1) : W (evS c (.seto i e) s h) QF := by
  rw [evS]; exact w_bind (q.imp fun x h1 ⟨l, e, a, b⟩ => by subst e; exact w_if a b)
theorem w_asg {t : T} {e : E} (q : W (evE c e s h) fun d h1 => Ob (asgT t d s) fun s' => QF (.nx s') h1) : W (evS c (.asg t e) s h) QF := by
  rw [evS]; exact w_bind (q.imp fun x h1 q => w_mapo q)
theorem w_par2 {i j : Nat} {a b : E} (q : W (evE c a s h) fun x h1 => W (evE c b s h1) fun y h2 => (i < s.length ∧ j < s.length) ∧ QF (.nx ((s.set i (.v x)).set j (.v y))) h2) : W (evS c (.par2 i j a b) s h) QF := by
  rw [evS]; exact w_bind (q.imp fun x h1 q => w_bind (q.imp fun y h2 ⟨a, b⟩ => w_if a b))
theorem w_par3 {i j k : Nat} {a b d : E} (q : W (evE c a s h) fun x h1 => W (evE c b s h1) fun y h2 => W (evE c d s h2) fun z h3 => (i < s.length ∧ j < s.length ∧ k < s.length) ∧ QF (.nx (((s.set i (.v x)).set j (.v y)).set k (.v z))) h3) : W (evS c (.par3 i j k a b d) s h) QF := by
  rw [evS]; exact w_bind (q.imp fun x h1 q => w_bind (q.imp fun y h2 q => w_bind (q.imp fun z h3 ⟨a, b⟩ => w_if a b)))
theorem w_app {i : Nat} {e : E} (q : W (evE c e s h) fun d h1 => ∃ l, s[i]? = some (.own l) ∧ l.length < most ∧ QF (.nx (s.set i (.own (l ++ [d])))) h1) : W (evS c (.app i e) s h) QF := by
  rw [evS]; exact w_bind (q.imp fun x h1 ⟨l, e, a, b⟩ => by simp only [e]; exact w_if a b)
theorem w_exp {e : E} (q : W (evE c e s h) fun _ h1 => QF (.nx s) h1) : W (evS c (.exp e) s h) QF := by
  rw [evS]; exact w_map (f := fun _ => Fl.nx s) q
theorem w_ret {e : E} (q : W (evE c e s h) fun d h1 => QF (.rt d) h1) : W (evS c (.ret e) s h) QF := by
  rw [evS]; exact w_map (f := fun d => Fl.rt d) q
theorem w_reto {i : Nat} {l : List D} (e : s[i]? = some (.own l)) (q : QF (.rt (.lst l)) h) : W (evS c (.reto i) s h) QF := by
  rw [evS, e]; exact w_some q
theorem w_retn (q : QF (.rt .non) h) : W (evS c .retn s h) QF := by rw [evS]; exact w_some q
theorem w_brk (q : QF (.bk s) h) : W (evS c .brk s h) QF := by rw [evS]; exact w_some q
theorem w_cnt (q : QF (.ct s) h) : W (evS c .cnt s h) QF := by rw [evS]; exact w_some q
theorem w_pass (q : QF (.nx s) h) : W (evS c .pass s h) QF := by rw [evS]; exact w_some q
theorem w_frz {i : Nat} {l : List D} (e : s[i]? = some (.own l)) (q : QF (.nx (s.set i (.v (.lst l)))) h) : W (evS c (.frz i) s h) QF := by
  rw [evS, e]; exact w_some q
theorem w_ifs {k : E} {a b : Ss} (q : W (evE c k s h) fun x h1 => ∃ z, x = .bl z ∧ if z = true then W (evSs c a s h1) QF else W (evSs c b s h1) QF) : W (evS c (.ifs k a b) s h) QF := by
  rw [evS]
  refine w_bind (w_tst (q.imp fun x h1 ⟨z, e, q⟩ => ⟨z, e, ?_⟩))
  cases z with
  | true => exact q
  | false => exact q
/-- a loop's turn -/
@[reducible] def turnF (I : Env → Hh → Prop) (QF : Fl → Hh → Prop) : Fl → Hh → Prop
  | .nx s, h => I s h
  | .ct s, h => I s h
  | .bk s, h => QF (.nx s) h
  | .rt d, h => QF (.rt d) h
theorem w_forL {tg : D → Env → Option Env} {body : Env → Hh → Option (Fl × Hh)} (I : List D → Env → Hh → Prop) :
    ∀ (items : List D) (s : Env) (h : Hh), I items s h → (∀ d r s h, I (d :: r) s h → Ob (tg d s) fun s1 => W (body s1 h) (turnF (I r) QF)) → (∀ s h, I [] s h → QF (.nx s) h) → W (forL tg body items s h) QF
  | [], s, h, i, st, fin => by rw [forL]; exact w_some (fin s h i)
  | d :: r, s, h, i, st, fin => by
    rw [forL]
    obtain ⟨s1, e1, fl, h2, e2, q⟩ := st d r s h i
    refine w_bindo ⟨s1, e1, w_bind ⟨fl, h2, e2, ?_⟩⟩
    cases fl with
    | nx s2 => exact w_forL I r s2 h2 q st fin
    | ct s2 => exact w_forL I r s2 h2 q st fin
    | bk s2 => exact w_some q
    | rt d => exact w_some q
theorem w_for {t : T} {src : Src} {b : Ss} (q : W (evSrc c src s h) fun items h1 => ∃ I : List D → Env → Hh → Prop, I items s h1 ∧ (∀ d r s h, I (d :: r) s h → Ob (asgT t d s) fun s1 => W (evSs c b s1 h) (turnF (I r) QF)) ∧ ∀ s h, I [] s h → QF (.nx s) h) : W (evS c (.forr t src b) s h) QF := by
  rw [evS]
  exact w_bind (q.imp fun items h1 ⟨I, i0, st, fin⟩ => w_forL I items s h1 i0 st fin)
theorem w_whileL {tst : Env → Hh → Option (Bool × Hh)} {body : Env → Hh → Option (Fl × Hh)} (I : Nat → Env → Hh → Prop) :
    ∀ (m : Nat) (s : Env) (h : Hh) (n : Nat), m < n → I m s h → (∀ m s h, I m s h → W (tst s h) fun b h1 => if b = true then W (body s h1) (turnF (fun s h => ∃ k, k < m ∧ I k s h) QF) else QF (.nx s) h1) → W (whileL tst body n s h) QF := by
  intro m
  induction m using
                                                              Nat.strongRecOn with
  | ind m ih =>
    intro s h n hn i st
    obtain ⟨n, rfl⟩ : ∃ k, n = k + 1 := ⟨n - 1, by omega⟩
    rw [whileL]
    obtain ⟨b, h1, e1, q⟩ := st m s h i
    refine w_bind ⟨b, h1, e1, ?_⟩
    cases b with
    | true =>
      obtain ⟨fl, h2, e2, q⟩ := q
      refine w_bind ⟨fl, h2, e2, ?_⟩
      cases fl with
      | nx s2 => obtain ⟨k, hk, q⟩ := q; exact ih k hk s2 h2 n (by omega) q st
      | ct s2 => obtain ⟨k, hk, q⟩ := q; exact ih k hk s2 h2 n (by omega) q st
      | bk s2 => exact w_some q
      | rt d => exact w_some q
    | false => exact w_some q
theorem w_while {k : E} {b : Ss} (I : Nat → Env → Hh → Prop) (m : Nat) (hm : m < c.fuel) (i : I m s h) (st : ∀ m s h, I m s h → W (evE c k s h) fun x h1 => ∃ z, x = .bl z ∧ if z = true then W (evSs c b s h1) (turnF (fun s h => ∃ k, k < m ∧ I k s h) QF) else QF (.nx s) h1) : W (evS c (.while k b) s h) QF := by
  rw [evS]
  exact w_whileL I m s h c.fuel hm i fun m s h i => w_tst ((st m s h i).imp fun x h1 ⟨z, e, q⟩ => ⟨z, e, q⟩)
/-- what a def's end gives -/
@[reducible] def endF (QD : D → Hh → Prop) : Fl → Hh → Prop
  | .rt d, h => QD d h
  | .nx _, h => QD .non h
  | _, _ => False
theorem w_run {P : Prog} {fuel n : Nat} {f : Str} {fn : Fn} {args : List D} (i : P.get f = some fn) (hl : args.length = fn.ps) (q : W (evSs ⟨run P fuel n, fuel⟩ fn.body (startE fn args) h) (endF QD)) : W (run P fuel (n + 1) f args h) QD := by
  rw [run, i]
  simp only [hl, if_true]
  obtain ⟨fl, h1, e, q⟩ := q
  cases fl with
  | rt d => exact ⟨d, h1, by rw [e]; rfl, q⟩
  | nx s => exact ⟨.non, h1, by rw [e]; rfl, q⟩
  | bk s => exact q.elim
  | ct s => exact q.elim

/-! ### leaves -/
section
variable {P : D → Prop} {PB : Bool → Prop} {i j : Int}
theorem ob_add (q : P (.int (i + j))) : Ob (binD h .Add (.int i) (.int j)) P := .of rfl q
theorem ob_sub (q : P (.int (i - j))) : Ob (binD h .Sub (.int i) (.int j)) P := .of rfl q
theorem ob_mul {p r : Nat} (b : Bd p i) (d : Bd r j) (hpr : p + r < 9000) (q : P (.int (i * j))) : Ob (binD h .Mult (.int i) (.int j)) P := .of (by rw [binD, if_pos (mulN b d hpr)]) q
theorem ob_mod (hj : j ≠ 0) (q : P (.int (i.fmod j))) : Ob (binD h .Mod (.int i) (.int j)) P := .of (by rw [binD, if_pos hj]) q
theorem ob_div (hj : j ≠ 0) (b : Bd 9000 j) (q : P (.int (i.fdiv j))) : Ob (binD h .FloorDiv (.int i) (.int j)) P := .of (by rw [binD, if_pos ⟨hj, noPylong b⟩]) q
theorem ob_tups {a b : List D} (hl : a.length + b.length ≤ most) (q : P (.tup (a ++ b))) : Ob (binD h .Add (.tup a) (.tup b)) P := .of (by rw [binD, if_pos hl]) q
theorem ob_strs {a b : List Nat} (hl : a.length + b.length ≤ most) (q : P (.str (a ++ b))) : Ob (binD h .Add (.str a) (.str b)) P := .of (by rw [binD, if_pos hl]) q
theorem ob_eqi (q : PB (decide (i = j))) : Ob (cmpD h .Eq (.int i) (.int j)) PB := .of (by rw [cmpD, eq_int]) q
theorem ob_nei (q : PB (!decide (i = j))) : Ob (cmpD h .NotEq (.int i) (.int j)) PB := .of (by rw [cmpD, eq_int]; rfl) q
theorem ob_lti (q : PB (decide (i < j))) : Ob (cmpD h .Lt (.int i) (.int j)) PB := .of rfl q
theorem ob_lei (q : PB (decide (i ≤ j))) : Ob (cmpD h .LtE (.int i) (.int j)) PB := .of rfl q
theorem ob_gti (q : PB (decide (j < i))) : Ob (cmpD h .Gt (.int i) (.int j)) PB := .of rfl q
theorem ob_gei (q : PB (decide (j ≤ i))) : Ob (cmpD h .GtE (.int i) (.int j)) PB := .of rfl q
theorem ob_isb {a b : Bool} (q : PB (decide (a = b))) : Ob (cmpD h .Is (.bl a) (.bl b)) PB := .of rfl q
theorem ob_nisb {a b : Bool} (q : PB (decide (a ≠ b))) : Ob (cmpD h .IsNot (.bl a) (.bl b)) PB := .of rfl q
theorem ob_lent {l : List D} (q : P (.int l.length)) : Ob (prD h .len [.tup l]) P := .of rfl q
theorem ob_lenl {l : List D} (q : P (.int l.length)) : Ob (prD h .len [.lst l]) P := .of rfl q
theorem ob_lens {x : List Nat} (hl : x.length ≤ most) (q : P (.int x.length)) : Ob (prD h .len [.str x]) P := .of (by rw [prD, if_pos hl]) q
theorem ob_gcd (q : P (.int (Nat.gcd i.natAbs j.natAbs : Nat))) : Ob (prD h .gcd [.int i, .int j]) P := .of rfl q
theorem ob_int (q : P (.int i)) : Ob (prD h .int [.int i]) P := .of rfl q
theorem ob_tupl {l : List D} (q : P (.tup l)) : Ob (prD h .tuple [.lst l]) P := .of rfl q
theorem ob_lstt {l : List D} (q : P (.lst l)) : Ob (prD h .list [.tup l]) P := .of rfl q
theorem ob_lstl {l : List D} (q : P (.lst l)) : Ob (prD h .list [.lst l]) P := .of rfl q
theorem ob_trub {b : Bool} (q : PB b) : Ob (truD h (.bl b)) PB := .of rfl q
end
end
theorem wb {x : D} {P : Bool → Prop} {b : Bool} (e : x = .bl b) (q : P b) : ∃ z, x = .bl z ∧ P z := ⟨b, e, q⟩
theorem ob_rfl {α : Type} {x : Option α} {a : α} {P : α → Prop} (e : x = some a) (q : P a) : Ob x P := ⟨a, e, q⟩
theorem ifp {p A B : Prop} [Decidable p] (e : p) (q : A) : if p then A else B := by rw [if_pos e]; exact q
theorem ifn {p A B : Prop} [Decidable p] (e : ¬ p) (q : B) : if p then A else B := by rw [if_neg e]; exact q
theorem wlt {i : Nat} {l : Env} {A : Prop} (e : i < l.length) (q : A) : i < l.length ∧ A := ⟨e, q⟩
theorem wlt2 {i j : Nat} {l : Env} {A : Prop} (e : i < l.length ∧ j < l.length) (q : A) : (i < l.length ∧ j < l.length) ∧ A := ⟨e, q⟩
theorem wlt3 {i j k : Nat} {l : Env} {A : Prop} (e : i < l.length ∧ j < l.length ∧ k < l.length) (q : A) : (i < l.length ∧ j < l.length ∧ k < l.length) ∧ A := ⟨e, q⟩
theorem wmost {l : List D} {A : Prop} (e : l.length ≤ most) (q : A) : l.length ≤ most ∧ A := ⟨e, q⟩
theorem wlst {x : D} {P : List D → Prop} {l : List D} (e : x = .lst l) (q : P l) : ∃ l, x = .lst l ∧ P l := ⟨l, e, q⟩
theorem wint {x : D} {P : Int → Prop} {i : Int} (e : x = .int i) (q : P i) : ∃ i, x = .int i ∧ P i := ⟨i, e, q⟩
/-- forward, as far as the text alone leads -/
local macro_rules | `(tactic| walk_at "mp1") => `(tactic| first
  | with_reducible refine w_seq ?_ | with_reducible refine w_nil ?_ | ((with_reducible apply w_var); · exact rfl) | ((with_reducible apply w_own); · exact rfl) | with_reducible refine w_lit ?_ | with_reducible refine w_gl ?_
  | with_reducible refine w_tup ?_ | with_reducible refine w_lst ?_ | with_reducible refine w_bin ?_ | with_reducible refine w_neg ?_ | with_reducible refine w_cmp ?_ | with_reducible refine w_and1 ?_ | with_reducible refine w_and ?_
  | with_reducible refine w_no ?_ | with_reducible refine w_tru ?_ | with_reducible refine w_ite ?_ | with_reducible refine w_idx ?_ | with_reducible refine w_slc ?_ | with_reducible refine w_o0 ?_ | with_reducible refine w_o1 ?_ | with_reducible refine w_call ?_
  | with_reducible refine w_pr ?_ | with_reducible refine w_isi ?_ | with_reducible refine w_es0 ?_ | with_reducible refine w_es1 ?_ | with_reducible refine w_if0 ?_ | with_reducible refine w_if1 ?_
  | with_reducible refine w_of ?_ | with_reducible refine w_rg1 ?_ | with_reducible refine w_rg2 ?_ | with_reducible refine w_set ?_ | with_reducible refine w_seto ?_ | with_reducible refine w_asg ?_ | with_reducible refine w_par2 ?_ | with_reducible refine w_par3 ?_
  | with_reducible refine w_app ?_ | with_reducible refine w_exp ?_ | with_reducible refine w_ret ?_ | ((with_reducible apply w_reto); · exact rfl) | with_reducible refine w_retn ?_ | with_reducible refine w_brk ?_ | with_reducible refine w_cnt ?_
  | with_reducible refine w_pass ?_ | ((with_reducible apply w_frz); · exact rfl) | with_reducible refine w_ifs ?_
  | with_reducible refine ob_add ?_ | with_reducible refine ob_sub ?_ | with_reducible refine ob_eqi ?_ | with_reducible refine ob_nei ?_ | with_reducible refine ob_lti ?_ | with_reducible refine ob_lei ?_ | with_reducible refine ob_gti ?_ | with_reducible refine ob_gei ?_
  | with_reducible refine ob_isb ?_ | with_reducible refine ob_nisb ?_ | with_reducible refine ob_lent ?_ | with_reducible refine ob_lenl ?_ | with_reducible refine ob_gcd ?_ | with_reducible refine ob_int ?_ | with_reducible refine ob_tupl ?_
  | with_reducible refine ob_lstt ?_ | with_reducible refine ob_lstl ?_ | with_reducible refine ob_trub ?_
  | ((with_reducible apply wlt); · exact of_decide_eq_true rfl) | ((with_reducible apply wlt2); · exact of_decide_eq_true rfl) | ((with_reducible apply wlt3); · exact of_decide_eq_true rfl) | ((with_reducible apply wmost); · exact of_decide_eq_true rfl)
  | ((with_reducible apply wlst); · exact rfl) | ((with_reducible apply wint); · exact rfl)
  | ((with_reducible apply wb); · exact rfl)
  | ((with_reducible apply ob_rfl); · exact rfl)
  | ((with_reducible apply ifp); · exact rfl) | ((with_reducible apply ifn); · exact fun e => Bool.noConfusion e))
local macro_rules | `(tactic| walk_at "mp") => `(tactic| repeat walk_at "mp1")
/-! ### places in lists -/
theorem cut_to {α : Type} {xs : List α} {k : Int} (h0 : 0 ≤ k) : cutD xs none (some k) = xs.take k.toNat := by
  obtain ⟨k, rfl⟩ := Int.eq_ofNat_of_zero_le h0
  unfold cutD
  have e : HT.sIx xs.length xs.length (some ((k : Nat) : Int)) = min k xs.length := HT.sIx_nat _ _ _
  have e2 : HT.sIx xs.length 0 none = 0 := rfl
  rw [e, e2, List.drop_zero, Nat.sub_zero, Int.toNat_natCast]
  rcases Nat.le_total k xs.length with q | q
  · rw [Nat.min_eq_left q]
  · rw [Nat.min_eq_right q, List.take_of_length_le (Nat.le_refl _), List.take_of_length_le q]
theorem cut_from {α : Type} {xs : List α} {k : Int} (h0 : 0 ≤ k) : cutD xs (some k) none = xs.drop k.toNat := by
  obtain ⟨k, rfl⟩ := Int.eq_ofNat_of_zero_le h0
  unfold cutD
  have e : HT.sIx xs.length 0 (some ((k : Nat) : Int)) = min k xs.length := HT.sIx_nat _ _ _
  have e2 : HT.sIx xs.length xs.length none = xs.length := rfl
  rw [e, e2, Int.toNat_natCast]
  rcases Nat.le_total k xs.length with q | q
  · rw [Nat.min_eq_left q, List.take_of_length_le (by simp)]
  · rw [Nat.min_eq_right q, Nat.sub_self, List.take_zero, List.drop_of_length_le q]
theorem cut_last {α : Type} {xs : List α} : cutD xs none (some (-1)) = xs.take (xs.length - 1) := by
  unfold cutD
  have e : HT.sIx xs.length xs.length (some (-1)) = xs.length - 1 := by
    show (if (-1 : Int) < 0 then ((-1 : Int) + (xs.length : Int)).toNat else min (-1 : Int).toNat xs.length) = _
    rw [if_pos (by decide)]; omega
  have e2 : HT.sIx xs.length 0 none = 0 := rfl
  rw [e, e2, List.drop_zero, Nat.sub_zero]
theorem cut_len {α : Type} {xs : List α} {a b : Option Int} : (cutD xs a b).length ≤ xs.length := by
  unfold cutD
  rw [List.length_take,
                                                              List.length_drop]
  omega
theorem at_nat {α : Type} {xs : List α} {v : Int} (h0 : 0 ≤ v) : atI xs v = xs[v.toNat]? := by
  unfold atI ixN
  rw [if_pos h0]
  split
  · rfl
  · rw [List.getElem?_eq_none (by omega)]; rfl
/-- a list about one of its places -/
theorem split_at {α : Type} {l : List α} {v : Int} (h0 : 0 ≤ v) (h1 : v < l.length) : ∃ x d y, l = x ++ d :: y ∧ cutD l none (some v) = x ∧ cutD l (some (v + 1)) none = y ∧ atI l v = some d := by
  have hv : v.toNat < l.length := by omega
  refine ⟨l.take v.toNat, l[v.toNat], l.drop (v.toNat + 1), ?_, cut_to h0, ?_, ?_⟩
  · rw [List.getElem_cons_drop, List.take_append_drop]
  · rw [cut_from (by omega)]
    congr 1; omega
  · rw [at_nat h0, List.getElem?_eq_getElem hv]
theorem split_last {α : Type} {l : List α} (h1 : 0 < l.length) : ∃ x d, l = x ++ [d] ∧ cutD l none (some (-1)) = x ∧ atI l (-1) = some d := by
  refine ⟨l.take (l.length - 1), l[l.length - 1], ?_, cut_last, ?_⟩
  · have e : l.drop (l.length - 1) = [l[l.length - 1]] := by
      rw [← List.getElem_cons_drop (by omega : l.length - 1 < l.length), List.drop_of_length_le (by omega)]
    rw [← e, List.take_append_drop]
  · unfold atI ixN
    rw [if_neg (by decide), if_pos (by omega)]
    have : ((-1 : Int) + (l.length : Int)).toNat = l.length - 1 := by omega
    rw [this]
    exact List.getElem?_eq_getElem (by omega)

/-! ### the draws -/
/-- the state's heap -/
def St (h : Hh) : Prop := ∃ cs m, cs.length ≤ 63 ∧ Bd 31 m ∧ h = stH cs m []
theorem draw_w {P : Prog} {fuel n : Nat} {fn : Fn} (i : P.get "_law_draw" = some fn) (hb : fn.body = b__law_draw) (hn : fn.N.length = 5) (hp : fn.ps = 2) (hf : 63 < fuel) {many : Int} {h : Hh} (h0 : 0 < many) (h1 : Bd 9000 many) (st : St h) :
    W (run P fuel (n + 1) "_law_draw" [.ref 1, .int many] h) (fun d h' => ∃ v, d = .int v ∧ 0 ≤ v ∧ v < many ∧ St h') := by
  obtain ⟨cs, m, hl, hm, rfl⟩ := st
  refine w_run i (by rw [hp]; rfl) ?_
  have es : startE fn [.ref 1, .int many] = [.v (.ref 1), .v (.int many), .un, .un, .un] := by unfold startE; rw [hn]; rfl
  rw [hb, es, b__law_draw]
  obtain ⟨cs', q1, q2, e⟩ := pop_loop (c := ⟨run P fuel n, fuel⟩) (a := .v (.ref 1)) (b := .v (.int many)) (x := .un) (y := .un) (m := m) (rest := []) cs fuel (by omega)
  have e2 : evS ⟨run P fuel n, fuel⟩ l__law_draw_0 [.v (.ref 1), .v (.int many), .v (.ref 0), .un, .un] (stH cs m []) = some (.nx [.v (.ref 1), .v (.int many), .v (.ref 0), .un, .un], stH cs' m []) := by
    rw [l__law_draw_0, evS, e]
  have hne : many ≠ 0 := by omega
  walk_at "mp"
  refine W.of e2 ?_
  walk_at "mp"
  rcases q1 with rfl | ⟨z, r, rfl, hz⟩
  · walk_at "mp"
    refine ob_mul hm (show Bd 20 48271 by unfold Bd; decide) (by decide) ?_
    walk_at "mp"
    obtain ⟨r0, r1⟩ := fmod_range (a := m * 48271 + 12345) (b := 2147483647) (by decide)
    refine W.of (h := stH [] ((m * 48271 + 12345).fmod 2147483647) []) rfl ?_
    walk_at "mp"
    refine ob_mod hne ?_
    obtain ⟨g0, g1⟩ := fmod_range (a := ((m * 48271 + 12345).fmod 2147483647).fdiv 64) (b := many) h0
    exact ⟨_, rfl, g0, g1, [], _, by simp, bd_of (k := 2147483647) (by omega) r1 (by decide), rfl⟩
  · walk_at "mp"
    have hlen : (0 : Int) < ((((z :: r).map MP.D.int).length : Nat) : Int) := by simp only [List.length_map, List.length_cons]; omega
    simp only [hlen, decide_true, if_true]
    walk_at "mp"
    refine ob_rfl (a := .int z) (by simp [idxD, asL, stH, atI, ixN]) ?_
    walk_at "mp"
    refine W.of (a := .nx [.v (.ref 1), .v (.int many), .v (.ref 0), .un, .v (.int z)]) (h := stH (z.fdiv many :: r) m []) ?_ ?_
    · simp [evS, evE, binD, stH, asL, idxD, atI, ixN, noPylong h1, hne]
    walk_at "mp"
    refine ob_mod hne ?_
    obtain ⟨g0, g1⟩ := fmod_range (a := z) (b := many) h0
    exact ⟨_, rfl, g0, g1, _, m, by simp only [List.length_cons] at q2 ⊢; omega, hm, rfl⟩
theorem state_w {P : Prog} {fuel n : Nat} (i : P.get "_law_state" = some f__law_state) {ns : List Int} (hl : ns.length ≤ 63) : W (run P fuel (n + 1) "_law_state" [.lst (ns.map .int)] []) (fun d h' => d = .ref 1 ∧ St h') := by
  obtain ⟨m, hm, e⟩ := state_run (P := P) (fuel := fuel) (n := n) i (ns := ns) (by omega)
  exact W.of e ⟨rfl, _, m, by rw [List.length_map]; exact hl, hm, rfl⟩
end MP

/-! MP: what is wanted behind: texts, objects of the heap. -/
namespace MP
open PySem
open PySem.Spec
open PyProof.Rows
open L2
section
variable {α : Type} {c : Cfg} {s : Env} {h : Hh} {Q : α → Hh → Prop} {QD : D → Hh → Prop} {QL : List D → Hh → Prop} {QB : Bool → Hh → Prop} {QF : Fl → Hh → Prop}
theorem w_join {a b : E} (q : W (evE c a s h) fun x h1 => W (evE c b s h1) fun y h2 => ∃ sp l ls, x = .str sp ∧ asL h2 y = some l ∧ strsOf l = some ls ∧ (ls.map (·.length)).sum + ls.length * sp.length ≤ most ∧ QD (.str (TL.joinL sp ls)) h2) : W (evE c (.join a b) s h) QD := by
  rw [evE]
  refine w_bind (q.imp fun x h1 q => w_bind (q.imp fun y h2 ⟨sp, l, ls, e1, e2, e3, e4, q9⟩ => ?_))
  subst e1
  simp only [e2, e3, Option.bind_some]
  exact w_if e4 q9
theorem w_lstr {a b : E} (q : W (evE c a s h) fun x h1 => W (evE c b s h1) fun y h2 => ∃ u v, x = .str u ∧ y = .str v ∧ u.length ≤ most ∧ QD (.str (u.dropWhile fun z => decide (z ∈ v))) h2) : W (evE c (.lstr a b) s h) QD := by
  rw [evE]
  refine w_bind (q.imp fun x h1 q => w_bind (q.imp fun y h2 ⟨u, v, e1, e2, e4, q9⟩ => ?_))
  subst e1 e2
  exact w_if e4 q9
theorem w_dget {kv : List (List Nat × List Nat)} {a : E} (q : W (evE c a s h) fun x h1 => ∃ u, x = .str u ∧ QD (match kv.find? (fun z => decide (z.1 = u)) with | some z => .str z.2 | none => .non) h1) : W (evE c (.dget kv a) s h) QD := by
  rw [evE]
  refine w_bind (q.imp fun x h1 ⟨u, e1, q⟩ => ?_)
  subst e1
  exact w_some q
theorem w_popl {a : E} (q : W (evE c a s h) fun x h1 => ∃ n l d, x = .ref n ∧ h1[n]? = some (.lst l) ∧ l[l.length - 1]? = some d ∧ QD d (h1.set n (.lst l.dropLast))) : W (evE c (.popl a) s h) QD := by
  rw [evE]
  refine w_bind (q.imp fun x h1 ⟨n, l, d, e1, e2, e3, q⟩ => ?_)
  subst e1
  simp only [e2, e3, Option.map_some]
  exact w_some q
theorem w_isi2 {a : E} {t u : Ty} (q : W (evE c a s h) fun x h1 => Ob (isiD h1 t x) fun b => Ob (isiD h1 u x) fun b' => QD (.bl (b || b')) h1) : W (evE c (.isi2 a t u) s h) QD := by
  rw [evE]
  refine w_bind (q.imp fun x h1 ⟨b, e1, b', e2, q⟩ => ?_)
  simp only [e1, e2, Option.bind_some, Option.map_some]
  exact w_some q
theorem w_new {a : E} (q : W (evE c a s h) fun x h1 => ∃ l, x = .lst l ∧ QD (.ref h1.length) (h1 ++ [.lst l])) : W (evE c (.new a) s h) QD := by
  rw [evE]
  refine w_bind (q.imp fun x h1 ⟨l, e1, q⟩ => ?_)
  subst e1
  exact w_some q
theorem w_appr {a e : E} (q : W (evE c a s h) fun x h1 => W (evE c e s h1) fun y h2 => ∃ n l, x = .ref n ∧ h2[n]? = some (.lst l) ∧ l.length < most ∧ QF (.nx s) (h2.set n (.lst (l ++ [y])))) : W (evS c (.appr a e) s h) QF := by
  rw [evS]
  refine w_bind (q.imp fun x h1 q => w_bind (q.imp fun y h2 ⟨n, l, e1, e2, e3, q9⟩ => ?_))
  subst e1
  simp only [e2]
  exact w_if e3 q9
theorem w_setir {a k e : E} (q : W (evE c e s h) fun y h1 => W (evE c a s h1) fun x h2 => W (evE c k s h2) fun z h3 => ∃ n i l j, x = .ref n ∧ z = .int i ∧ h3[n]? = some (.lst l) ∧ ixN l.length i = some j ∧ QF (.nx s) (h3.set n (.lst (l.set j y)))) : W (evS c (.setir a k e) s h) QF := by
  rw [evS]
  refine w_bind (q.imp fun y h1 q => w_bind (q.imp fun x h2 q => w_bind (q.imp fun z h3 ⟨n, i, l, j, e1, e2, e3, e4, q9⟩ => ?_)))
  subst e1 e2
  simp only [e3, e4, Option.map_some]
  exact w_some q9
theorem w_enumS {a : E} (q : W (evE c a s h) fun x h1 => ∃ u, x = .str u ∧ QL (u.zipIdx.map fun x => .tup [.int x.2, .str [x.1]]) h1) : W (evSrc c (.enum a) s h) QL := by
  rw [evSrc]
  refine w_bind (q.imp fun x h1 ⟨l, e1, q⟩ => ?_)
  subst e1
  exact w_some q
section
variable {P : D → Prop} {PB : Bool → Prop} {i j : Int}
def Cod (a : List Nat) : Prop := ∀ z ∈ a, z < 1114112
theorem Cod.ok {a : List Nat} (h : Cod a) (n : Nat) : eqOk n (.str a) = true := by
  have : (a.all fun c => decide (c < 1114112)) = true := List.all_eq_true.mpr fun z hz => decide_eq_true (h z hz)
  cases n <;> simpa [eqOk] using this
theorem Cod.app {a b : List Nat} (h : Cod a) (k : Cod b) : Cod (a ++ b) := fun z hz => (List.mem_append.mp hz).elim (h z) (k z)
theorem Cod.one {z : Nat} (h : z < 1114112) : Cod [z] := fun y hy => by rw [List.mem_singleton.mp hy]; exact h
theorem Cod.cut {a : List Nat} {lo hi : Option Int} (h : Cod a) : Cod (cutD a lo hi) := fun z hz => h z (List.mem_of_mem_drop (List.mem_of_mem_take hz))
theorem eq_str {a b : List Nat} (ha : Cod a) (hb : Cod b) : eqD (.str a) (.str b) = some (decide (a = b)) := by
  have e : eqD (.str a) (.str b) = (if eqOk 60 (.str a) && eqOk 60 (.str b) then some (decide (D.str a = D.str b)) else none) := rfl
  rw [e, ha.ok, hb.ok]
  simp
theorem ob_eqs {a b : List Nat} (ha : Cod a) (hb : Cod b) (q : PB (decide (a = b))) : Ob (cmpD h .Eq (.str a) (.str b)) PB := .of (by rw [cmpD, eq_str ha hb]) q
theorem ob_nes {a b : List Nat} (ha : Cod a) (hb : Cod b) (q : PB (!decide (a = b))) : Ob (cmpD h .NotEq (.str a) (.str b)) PB := .of (by rw [cmpD, eq_str ha hb]; rfl) q
theorem ob_eqc {x y : Nat} (hx : x < 1114112) (hy : decide (y < 1114112) = true) (q : PB (decide (x = y))) : Ob (cmpD h .Eq (.str [x]) (.str [y])) PB := by
  refine ob_eqs (.one hx) (.one (of_decide_eq_true hy)) ?_
  have : decide ([x] = [y]) = decide (x = y) := by simp
  rw [this]; exact q
theorem ob_nec {x y : Nat} (hx : x < 1114112) (hy : decide (y < 1114112) = true) (q : PB (!decide (x = y))) : Ob (cmpD h .NotEq (.str [x]) (.str [y])) PB := by
  refine ob_nes (.one hx) (.one (of_decide_eq_true hy)) ?_
  have : decide ([x] = [y]) = decide (x = y) := by simp
  rw [this]; exact q
theorem inD_one {x : Nat} {l : List Nat} : inD h (.str [x]) (.str l) = some (decide (x ∈ l)) := by
  have e : inD h (.str [x]) (.str l) = some (!(Builtin.Str.occurrences ⟨l.toArray⟩ ⟨#[x]⟩ 0 l.length 1).isEmpty) := rfl
  rw [e]
  have e2 := StrLaws.found_one ⟨l.toArray⟩ x
  have e3 : (⟨l.toArray⟩ : Str).length = l.length := by rw [TL.len_tl]
  rw [e3] at e2
  rw [e2]
theorem ob_inc {x : Nat} {l : List Nat} (q : PB (decide (x ∈ l))) : Ob (cmpD h .In (.str [x]) (.str l)) PB := .of (by rw [cmpD, inD_one]) q
theorem ob_ninc {x : Nat} {l : List Nat} (q : PB (!decide (x ∈ l))) : Ob (cmpD h .NotIn (.str [x]) (.str l)) PB := .of (by rw [cmpD, inD_one]; rfl) q
theorem ob_sit {a : List Nat} {l : List D} (hl : l.all isFlat = true) (q : PB (decide (D.str a ∈ l))) : Ob (cmpD h .In (.str a) (.tup l)) PB := .of (by
  rw [cmpD, inD]
  have : (isFlat (.str a) && l.all isFlat) = true := by rw [hl]; rfl
  rw [if_pos this]) q
theorem ob_isn {d : D} (q : PB (decide (d = .non))) : Ob (cmpD h .Is d .non) PB := by
  cases d <;> exact .of rfl q
theorem ob_nisn {d : D} (q : PB (decide (d ≠ .non))) : Ob (cmpD h .IsNot d .non) PB := by
  cases d <;> exact .of rfl q
theorem ob_eqb {a b : Bool} (q : PB (a == b)) : Ob (cmpD h .Eq (.bl a) (.bl b)) PB := .of rfl q
theorem ob_neb {a b : Bool} (q : PB (!(a == b))) : Ob (cmpD h .NotEq (.bl a) (.bl b)) PB := .of rfl q
theorem ob_ixs {x : List Nat} {y : Nat} (hl : x.length ≤ most) (e : atI x i = some y) (q : P (.str [y])) : Ob (idxD h (.str x) (.int i)) P := .of (by rw [idxD, if_pos hl, e]; rfl) q
theorem ob_ixl {x : List D} {y : D} (e : atI x i = some y) (q : P y) : Ob (idxD h (.lst x) (.int i)) P := .of (by rw [idxD]; exact e; intro l z; cases z; intro l z; cases z) q
theorem ob_ixt {x : List D} {y : D} (e : atI x i = some y) (q : P y) : Ob (idxD h (.tup x) (.int i)) P := .of (by rw [idxD]; exact e) q
theorem ob_cuts {x : List Nat} {lo hi : Option Int} (hl : x.length ≤ most) (q : P (.str (cutD x lo hi))) : Ob (slcD h (.str x) lo hi) P := .of (by rw [slcD, if_pos hl]) q
theorem ob_stri (hl : i.natAbs.log2 < 1920) (q : P (.str (cs (toString i)))) : Ob (prD h .str [.int i]) P := .of (by rw [prD, if_pos hl]) q
theorem ob_ints {x : List Nat} (hx : NumText.AllDigits x) (hn : x ≠ []) (hl : x.length ≤ 640) (q : P (.int (NumText.digitsVal x : Nat))) : Ob (prD h .int [.str x]) P := .of (by
  rw [prD, if_pos ⟨List.all_eq_true.mpr fun c hc => decide_eq_true (hx c hc), hn, hl⟩]) q
theorem ob_tups' {x : List Nat} (hl : x.length ≤ most) (q : P (.tup (x.map fun z => .str [z]))) : Ob (prD h .tuple [.str x]) P := .of (by rw [prD, if_pos hl]) q
theorem ob_trus {x : List Nat} (hl : x.length ≤ most) (q : PB (x.length != 0)) : Ob (truD h (.str x)) PB := .of (by rw [truD, if_pos hl]) q
end
end
end MP

namespace MP.k75
open PySem
open PySem.Spec
open PyProof.Rows
open L2
open MP
@[reducible] def g_LETTERS : D := (.str [97, 98, 99, 100, 101, 102, 103, 104, 105, 106, 107, 108, 109, 110, 111, 112, 113, 114, 115, 116, 117, 118, 119, 120, 121, 122])
@[reducible] def g_FIGURES : D := (.str [48, 49, 50, 51, 52, 53, 54, 55, 56, 57])
@[reducible] def r_is_value_0 : Src := (.of (.var 0))
@[reducible] def e_is_value_0 : E := (.call "is_value" (.cons (.var 1) .nil))
@[reducible] def c_is_value_0 : E := .gen true [1] e_is_value_0 (.nm 1) r_is_value_0 .no
@[reducible] def r_is_value_1 : Src := (.of (.var 0))
@[reducible] def e_is_value_1 : E := (.cmp .In (.var 2) (.gl "LETTERS" g_LETTERS))
@[reducible] def c_is_value_1 : E := .gen true [2] e_is_value_1 (.nm 2) r_is_value_1 .no
@[reducible] def b_is_value : Ss := (.cons (.ifs (.tru (.isi (.var 0) .tuple)) (.cons (.ret c_is_value_0) .nil) .nil) (.cons (.ifs (.tru (.isi (.var 0) .str)) (.cons (.ret c_is_value_1) .nil) .nil) (.cons (.ret (.bop true (.cons (.isi (.var 0) .int) (.cons (.no (.isi (.var 0) .bool)) .nil)))) .nil)))
@[reducible] def f_is_value : Fn := ⟨"is_value", ["value", "one", "sign"], 1, b_is_value⟩
@[reducible] def b_piece : Ss := (.cons (.ret (.pr .int (.cons (.bin .Add (.lit (.str [49])) (.bin .Mult (.lit (.str [48])) (.lit (.int 500)))) .nil))) .nil)
@[reducible] def f_piece : Fn := ⟨"piece", [], 0, b_piece⟩
@[reducible] def t_write_integer_0 : E := (.cmp .GtE (.var 1) (.call "piece" .nil))
@[reducible] def k_write_integer_0 : Ss := (.cons (.set 2 (.bin .Add (.slc (.pr .str (.cons (.bin .Add (.call "piece" .nil) (.bin .Mod (.var 1) (.call "piece" .nil))) .nil)) (.so (.lit (.int 1))) .no) (.var 2))) (.cons (.set 1 (.bin .FloorDiv (.var 1) (.call "piece" .nil))) .nil))
@[reducible] def l_write_integer_0 : S := .while t_write_integer_0 k_write_integer_0
@[reducible] def b_write_integer : Ss := (.cons (.par2 1 2 (.pr .abs (.cons (.var 0) .nil)) (.lit (.str []))) (.cons (l_write_integer_0) (.cons (.ret (.bin .Add (.bin .Add (.ite (.cmp .Lt (.var 0) (.lit (.int 0))) (.lit (.str [45])) (.lit (.str []))) (.pr .str (.cons (.var 1) .nil))) (.var 2))) .nil)))
@[reducible] def f_write_integer : Fn := ⟨"write_integer", ["number", "left", "told"], 1, b_write_integer⟩
@[reducible] def t_read_integer_0 : E := (.cmp .Lt (.var 3) (.pr .len (.cons (.var 1) .nil)))
@[reducible] def k_read_integer_0 : Ss := (.cons (.set 4 (.slc (.var 1) (.so (.var 3)) (.so (.bin .Add (.var 3) (.lit (.int 500)))))) (.cons (.set 2 (.bin .Add (.bin .Mult (.var 2) (.pr .int (.cons (.bin .Add (.lit (.str [49])) (.bin .Mult (.lit (.str [48])) (.pr .len (.cons (.var 4) .nil)))) .nil))) (.pr .int (.cons (.var 4) .nil)))) (.cons (.set 3 (.bin .Add (.var 3) (.lit (.int 500)))) .nil)))
@[reducible] def l_read_integer_0 : S := .while t_read_integer_0 k_read_integer_0
@[reducible] def b_read_integer : Ss := (.cons (.set 1 (.ite (.cmp .Eq (.idx (.var 0) (.lit (.int 0))) (.lit (.str [45]))) (.slc (.var 0) (.so (.lit (.int 1))) .no) (.var 0))) (.cons (.asg (.tp (.cons (.nm 2) (.cons (.nm 3) .nil))) (.tup (.cons (.lit (.int 0)) (.cons (.lit (.int 0)) .nil)))) (.cons (l_read_integer_0) (.cons (.ret (.ite (.cmp .Eq (.idx (.var 0) (.lit (.int 0))) (.lit (.str [45]))) (.bin .Sub (.lit (.int 0)) (.var 2)) (.var 2))) .nil))))
@[reducible] def f_read_integer : Fn := ⟨"read_integer", ["text", "figures", "told", "at", "part"], 1, b_read_integer⟩
@[reducible] def r_write_value_0 : Src := (.of (.var 0))
@[reducible] def e_write_value_0 : E := (.call "write_value" (.cons (.var 1) .nil))
@[reducible] def c_write_value_0 : E := .comp [1] e_write_value_0 (.nm 1) r_write_value_0 .no
@[reducible] def b_write_value : Ss := (.cons (.ifs (.tru (.isi (.var 0) .tuple)) (.cons (.ret (.bin .Add (.bin .Add (.lit (.str [40])) (.join (.lit (.str [32])) c_write_value_0)) (.lit (.str [41])))) .nil) .nil) (.cons (.ifs (.cmp .Eq (.var 0) (.lit (.str []))) (.cons (.ret (.lit (.str [46]))) .nil) .nil) (.cons (.ret (.ite (.tru (.isi (.var 0) .str)) (.var 0) (.call "write_integer" (.cons (.var 0) .nil)))) .nil)))
@[reducible] def f_write_value : Fn := ⟨"write_value", ["value", "one"], 1, b_write_value⟩
@[reducible] def b_next_state : Ss := (.cons (.ifs (.cmp .In (.var 0) (.tup (.cons (.lit (.str [115, 116, 97, 114, 116])) (.cons (.lit (.str [103, 97, 112])) (.cons (.lit (.str [111, 112, 101, 110])) .nil))))) (.cons (.ifs (.cmp .Eq (.var 1) (.lit (.str [40]))) (.cons (.ret (.lit (.str [111, 112, 101, 110]))) .nil) .nil) (.cons (.ifs (.cmp .Eq (.var 1) (.lit (.str [41]))) (.cons (.ret (.ite (.cmp .Eq (.var 0) (.lit (.str [111, 112, 101, 110]))) (.lit (.str [101, 110, 100])) (.lit .non))) .nil) .nil) (.cons (.ifs (.cmp .Eq (.var 1) (.lit (.str [45]))) (.cons (.ret (.lit (.str [109, 105, 110, 117, 115]))) .nil) .nil) (.cons (.ifs (.cmp .In (.var 1) (.gl "FIGURES" g_FIGURES)) (.cons (.ret (.ite (.cmp .Eq (.var 1) (.lit (.str [48]))) (.lit (.str [110, 111, 117, 103, 104, 116])) (.lit (.str [110, 117, 109, 98, 101, 114])))) .nil) .nil) (.cons (.ifs (.cmp .Eq (.var 1) (.lit (.str [46]))) (.cons (.ret (.lit (.str [101, 110, 100]))) .nil) .nil) (.cons (.ret (.ite (.cmp .In (.var 1) (.gl "LETTERS" g_LETTERS)) (.lit (.str [119, 111, 114, 100])) (.lit .non))) .nil)))))) .nil) (.cons (.ifs (.cmp .Eq (.var 0) (.lit (.str [109, 105, 110, 117, 115]))) (.cons (.ret (.ite (.bop true (.cons (.cmp .In (.var 1) (.gl "FIGURES" g_FIGURES)) (.cons (.cmp .NotEq (.var 1) (.lit (.str [48]))) .nil))) (.lit (.str [110, 117, 109, 98, 101, 114])) (.lit .non))) .nil) .nil) (.cons (.ifs (.bop false (.cons (.bop true (.cons (.cmp .Eq (.var 0) (.lit (.str [110, 117, 109, 98, 101, 114]))) (.cons (.cmp .In (.var 1) (.gl "FIGURES" g_FIGURES)) .nil))) (.cons (.bop true (.cons (.cmp .Eq (.var 0) (.lit (.str [119, 111, 114, 100]))) (.cons (.cmp .In (.var 1) (.gl "LETTERS" g_LETTERS)) .nil))) .nil))) (.cons (.ret (.var 0)) .nil) .nil) (.cons (.ret (.dget [([32], [103, 97, 112]), ([41], [101, 110, 100])] (.var 1))) .nil))))
@[reducible] def f_next_state : Fn := ⟨"next_state", ["state", "sign"], 2, b_next_state⟩
@[reducible] def r_first_wrong_0 : Src := (.enum (.var 0))
@[reducible] def k_first_wrong_0 : Ss := (.cons (.set 1 (.call "next_state" (.cons (.var 1) (.cons (.var 4) .nil)))) (.cons (.ifs (.bop false (.cons (.cmp .Is (.var 1) (.lit .non)) (.cons (.bop true (.cons (.cmp .Eq (.var 2) (.lit (.int 0))) (.cons (.cmp .Gt (.var 3) (.lit (.int 0))) (.cons (.bop false (.cons (.cmp .Eq (.var 1) (.lit (.str [103, 97, 112]))) (.cons (.cmp .Eq (.var 4) (.lit (.str [41]))) .nil))) .nil)))) .nil))) (.cons (.ret (.var 3)) .nil) .nil) (.cons (.set 2 (.bin .Sub (.bin .Add (.var 2) (.pr .int (.cons (.cmp .Eq (.var 4) (.lit (.str [40]))) .nil))) (.pr .int (.cons (.cmp .Eq (.var 4) (.lit (.str [41]))) .nil)))) .nil)))
@[reducible] def l_first_wrong_0 : S := .forr (.tp (.cons (.nm 3) (.cons (.nm 4) .nil))) r_first_wrong_0 k_first_wrong_0
@[reducible] def b_first_wrong : Ss := (.cons (.asg (.tp (.cons (.nm 1) (.cons (.nm 2) .nil))) (.tup (.cons (.lit (.str [115, 116, 97, 114, 116])) (.cons (.lit (.int 0)) .nil)))) (.cons (l_first_wrong_0) (.cons (.ret (.ite (.bop true (.cons (.cmp .Eq (.var 2) (.lit (.int 0))) (.cons (.cmp .In (.var 1) (.tup (.cons (.lit (.str [110, 111, 117, 103, 104, 116])) (.cons (.lit (.str [110, 117, 109, 98, 101, 114])) (.cons (.lit (.str [119, 111, 114, 100])) (.cons (.lit (.str [101, 110, 100])) .nil)))))) .nil))) (.lit .non) (.pr .len (.cons (.var 0) .nil)))) .nil)))
@[reducible] def f_first_wrong : Fn := ⟨"first_wrong", ["text", "state", "depth", "at", "sign"], 1, b_first_wrong⟩
@[reducible] def r_read_value_0 : Src := (.of (.bin .Add (.var 0) (.lit (.str [32]))))
@[reducible] def k_read_value_0 : Ss := (.cons (.ifs (.bop true (.cons (.cmp .In (.var 1) (.lit (.str [40, 41, 32]))) (.cons (.cmp .NotEq (.var 3) (.lit (.str []))) .nil))) (.cons (.appr (.idx (.var 2) (.neg (.lit (.int 1)))) (.call "value_of" (.cons (.var 3) .nil))) (.cons (.set 3 (.lit (.str []))) .nil)) .nil) (.cons (.ifs (.cmp .Eq (.var 1) (.lit (.str [40]))) (.cons (.appr (.var 2) (.new (.lst .nil))) .nil) .nil) (.cons (.ifs (.cmp .Eq (.var 1) (.lit (.str [41]))) (.cons (.set 4 (.popl (.var 2))) (.cons (.appr (.idx (.var 2) (.neg (.lit (.int 1)))) (.pr .tuple (.cons (.var 4) .nil))) .nil)) .nil) (.cons (.ifs (.cmp .NotIn (.var 1) (.lit (.str [40, 41, 32]))) (.cons (.set 3 (.bin .Add (.var 3) (.var 1))) .nil) .nil) .nil))))
@[reducible] def l_read_value_0 : S := .forr (.nm 1) r_read_value_0 k_read_value_0
@[reducible] def b_read_value : Ss := (.cons (.ifs (.cmp .IsNot (.call "first_wrong" (.cons (.var 0) .nil)) (.lit .non)) (.cons (.ret (.lit .non)) .nil) .nil) (.cons (.par2 2 3 (.new (.lst (.cons (.new (.lst .nil)) .nil))) (.lit (.str []))) (.cons (l_read_value_0) (.cons (.ret (.tup (.cons (.idx (.idx (.var 2) (.lit (.int 0))) (.lit (.int 0))) .nil))) .nil))))
@[reducible] def f_read_value : Fn := ⟨"read_value", ["text", "sign", "rows", "word", "last"], 1, b_read_value⟩
@[reducible] def b_value_of : Ss := (.cons (.ifs (.cmp .Eq (.var 0) (.lit (.str [46]))) (.cons (.ret (.lit (.str []))) .nil) .nil) (.cons (.ret (.ite (.cmp .In (.idx (.var 0) (.lit (.int 0))) (.gl "LETTERS" g_LETTERS)) (.var 0) (.call "read_integer" (.cons (.var 0) .nil)))) .nil))
@[reducible] def f_value_of : Fn := ⟨"value_of", ["word"], 1, b_value_of⟩
@[reducible] def b__law_refill : Ss := (.cons (.set 2 (.lit (.int 0))) (.cons (.ifs (.tru (.var 0)) (.cons (.set 2 (.idx (.var 0) (.bin .Mod (.var 1) (.pr .len (.cons (.var 0) .nil))))) .nil) .nil) (.cons (.ifs (.cmp .Lt (.var 2) (.lit (.int 0))) (.cons (.set 2 (.bin .Sub (.lit (.int 1)) (.bin .Mult (.lit (.int 2)) (.var 2)))) .nil) .nil) (.cons (.ifs (.bop true (.cons (.cmp .GtE (.var 2) (.bin .Pow (.lit (.int 10)) (.lit (.int 18)))) (.cons (.cmp .Lt (.var 1) (.pr .len (.cons (.var 0) .nil))) .nil))) (.cons (.ret (.var 2)) .nil) .nil) (.cons (.ret (.bin .Mod (.pr .int (.cons (.bin .Add (.bin .Mult (.pr .int (.cons (.bin .Add (.bin .Add (.bin .Mult (.var 2) (.lit (.int 48271))) (.bin .Mult (.var 1) (.lit (.int 69621)))) (.lit (.int 12345))) .nil)) (.lit (.int 40692))) (.lit (.int 7))) .nil)) (.lit (.int 2147483399)))) .nil)))))
@[reducible] def f__law_refill : Fn := ⟨"_law_refill", ["script", "k", "cell"], 2, b__law_refill⟩
@[reducible] def b__law_draw : Ss := (.cons (.ifs (.cmp .Eq (.idx (.var 0) (.lit (.int 1))) (.lit (.int 0))) (.cons (.setir (.var 0) (.lit (.int 1)) (.call "_law_refill" (.cons (.var 1) (.cons (.idx (.var 0) (.lit (.int 0))) .nil)))) (.cons (.setir (.var 0) (.lit (.int 0)) (.bin .Add (.idx (.var 0) (.lit (.int 0))) (.lit (.int 1)))) .nil)) .nil) (.cons (.set 3 (.bin .Mod (.pr .int (.cons (.idx (.var 0) (.lit (.int 1))) .nil)) (.var 2))) (.cons (.setir (.var 0) (.lit (.int 1)) (.bin .FloorDiv (.idx (.var 0) (.lit (.int 1))) (.var 2))) (.cons (.ret (.var 3)) .nil))))
@[reducible] def f__law_draw : Fn := ⟨"_law_draw", ["state", "script", "size", "digit"], 3, b__law_draw⟩
@[reducible] def r__law_exact_0 : Src := (.rg1 (.pr .len (.cons (.var 0) .nil)))
@[reducible] def e__law_exact_0 : E := (.call "_law_exact" (.cons (.idx (.var 0) (.var 3)) (.cons (.idx (.var 1) (.var 3)) .nil)))
@[reducible] def c__law_exact_0 : E := .comp [3] e__law_exact_0 (.nm 3) r__law_exact_0 .no
@[reducible] def b__law_exact : Ss := (.cons (.ifs (.tru (.isi2 (.var 0) .list .tuple)) (.cons (.ifs (.bop false (.cons (.cmp .NotEq (.isi (.var 0) .list) (.isi (.var 1) .list)) (.cons (.cmp .NotEq (.isi (.var 0) .tuple) (.isi (.var 1) .tuple)) .nil))) (.cons (.ret (.lit (.bl false))) .nil) .nil) (.cons (.ret (.bop true (.cons (.cmp .Eq (.pr .len (.cons (.var 0) .nil)) (.pr .len (.cons (.var 1) .nil))) (.cons (.pr .all (.cons c__law_exact_0 .nil)) .nil)))) .nil)) .nil) (.cons (.ifs (.bop false (.cons (.cmp .Is (.var 0) (.lit .non)) (.cons (.cmp .Is (.var 1) (.lit .non)) .nil))) (.cons (.ret (.bop true (.cons (.cmp .Is (.var 0) (.lit .non)) (.cons (.cmp .Is (.var 1) (.lit .non)) .nil)))) .nil) .nil) (.cons (.set 2 (.bop true (.cons (.cmp .Eq (.isi (.var 0) .str) (.isi (.var 1) .str)) (.cons (.cmp .Eq (.isi (.var 0) .bool) (.isi (.var 1) .bool)) .nil)))) (.cons (.ret (.bop true (.cons (.var 2) (.cons (.cmp .Eq (.isi (.var 0) .int) (.isi (.var 1) .int)) (.cons (.cmp .Eq (.var 0) (.var 1)) .nil))))) .nil))))
@[reducible] def f__law_exact : Fn := ⟨"_law_exact", ["first", "second", "alike", "k"], 2, b__law_exact⟩
@[reducible] def r__law_value_0 : Src := (.rg1 (.call "_law_draw" (.cons (.var 0) (.cons (.var 1) (.cons (.lit (.int 4)) .nil)))))
@[reducible] def e__law_value_0 : E := (.idx (.lit (.str [97, 98, 122])) (.call "_law_draw" (.cons (.var 0) (.cons (.var 1) (.cons (.lit (.int 3)) .nil)))))
@[reducible] def c__law_value_0 : E := .comp [4] e__law_value_0 (.nm 4) r__law_value_0 .no
@[reducible] def r__law_value_1 : Src := (.rg1 (.call "_law_draw" (.cons (.var 0) (.cons (.var 1) (.cons (.lit (.int 4)) .nil)))))
@[reducible] def e__law_value_1 : E := (.call "_law_value" (.cons (.var 0) (.cons (.var 1) (.cons (.bin .Sub (.var 2) (.lit (.int 1))) .nil))))
@[reducible] def c__law_value_1 : E := .comp [4] e__law_value_1 (.nm 4) r__law_value_1 .no
@[reducible] def b__law_value : Ss := (.cons (.set 3 (.call "_law_draw" (.cons (.var 0) (.cons (.var 1) (.cons (.lit (.int 4)) .nil))))) (.cons (.ifs (.cmp .Eq (.var 3) (.lit (.int 0))) (.cons (.ret (.join (.lit (.str [])) c__law_value_0)) .nil) .nil) (.cons (.ifs (.bop false (.cons (.cmp .Eq (.var 3) (.lit (.int 1))) (.cons (.cmp .Eq (.var 2) (.lit (.int 0))) .nil))) (.cons (.ret (.bin .Mult (.bin .Sub (.call "_law_draw" (.cons (.var 0) (.cons (.var 1) (.cons (.lit (.int 60)) .nil)))) (.lit (.int 30))) (.idx (.lst (.cons (.lit (.int 1)) (.cons (.lit (.int 1)) (.cons (.bin .Pow (.lit (.int 10)) (.lit (.int 20))) .nil)))) (.call "_law_draw" (.cons (.var 0) (.cons (.var 1) (.cons (.lit (.int 3)) .nil))))))) .nil) .nil) (.cons (.ret (.pr .tuple (.cons c__law_value_1 .nil))) .nil))))
@[reducible] def f__law_value : Fn := ⟨"_law_value", ["state", "script", "depth", "kind", "j"], 3, b__law_value⟩
@[reducible] def r__law_text_0 : Src := (.of (.var 0))
@[reducible] def e__law_text_0 : E := (.call "_law_text" (.cons (.var 1) .nil))
@[reducible] def c__law_text_0 : E := .comp [1] e__law_text_0 (.nm 1) r__law_text_0 .no
@[reducible] def b__law_text : Ss := (.cons (.ifs (.tru (.isi (.var 0) .tuple)) (.cons (.ret (.bin .Add (.bin .Add (.lit (.str [40])) (.join (.lit (.str [32])) c__law_text_0)) (.lit (.str [41])))) .nil) .nil) (.cons (.ret (.ite (.cmp .NotEq (.var 0) (.lit (.str []))) (.pr .str (.cons (.var 0) .nil)) (.lit (.str [46])))) .nil))
@[reducible] def f__law_text : Fn := ⟨"_law_text", ["value", "one"], 1, b__law_text⟩
@[reducible] def r__law_power_ten_0 : Src := (.rg1 (.var 0))
@[reducible] def k__law_power_ten_0 : Ss := (.cons (.set 1 (.bin .Mult (.var 1) (.lit (.int 10)))) .nil)
@[reducible] def l__law_power_ten_0 : S := .forr (.nm 2) r__law_power_ten_0 k__law_power_ten_0
@[reducible] def b__law_power_ten : Ss := (.cons (.set 1 (.lit (.int 1))) (.cons (l__law_power_ten_0) (.cons (.ret (.var 1)) .nil)))
@[reducible] def f__law_power_ten : Fn := ⟨"_law_power_ten", ["many", "out", "j"], 1, b__law_power_ten⟩
@[reducible] def r__law_wrong_at_0 : Src := (.rg1 (.pr .len (.cons (.var 0) .nil)))
@[reducible] def r__law_wrong_at_1 : Src := (.of (.slc (.var 0) .no (.so (.var 2))))
@[reducible] def k__law_wrong_at_1 : Ss := (.cons (.set 7 (.ite (.cmp .In (.var 4) (.lit (.str [40, 32, 41]))) (.lit (.str [])) (.bin .Add (.var 7) (.var 4)))) .nil)
@[reducible] def l__law_wrong_at_1 : S := .forr (.nm 4) r__law_wrong_at_1 k__law_wrong_at_1
@[reducible] def k__law_wrong_at_0 : Ss := (.cons (.par2 6 7 (.idx (.var 0) (.var 2)) (.lit (.str []))) (.cons (l__law_wrong_at_1) (.cons (.set 5 (.ite (.cmp .Gt (.var 2) (.lit (.int 0))) (.idx (.var 0) (.bin .Sub (.var 2) (.lit (.int 1)))) (.lit (.str [40])))) (.cons (.set 3 (.bop false (.cons (.cmp .Eq (.var 5) (.lit (.str [41]))) (.cons (.bop true (.cons (.cmp .NotEq (.var 7) (.lit (.str []))) (.cons (.cmp .NotEq (.var 7) (.lit (.str [45]))) .nil))) .nil)))) (.cons (.ifs (.cmp .Eq (.var 6) (.lit (.str [40]))) (.cons (.set 8 (.cmp .In (.var 5) (.lit (.str [40, 32])))) .nil) (.cons (.ifs (.cmp .Eq (.var 6) (.lit (.str [41]))) (.cons (.set 8 (.bop true (.cons (.cmp .Gt (.var 1) (.lit (.int 0))) (.cons (.bop false (.cons (.var 3) (.cons (.cmp .Eq (.var 5) (.lit (.str [40]))) .nil))) .nil)))) .nil) (.cons (.ifs (.cmp .Eq (.var 6) (.lit (.str [32]))) (.cons (.set 8 (.bop true (.cons (.cmp .Gt (.var 1) (.lit (.int 0))) (.cons (.var 3) .nil)))) .nil) (.cons (.ifs (.bop false (.cons (.cmp .Eq (.var 6) (.lit (.str [46]))) (.cons (.cmp .Eq (.var 6) (.lit (.str [45]))) .nil))) (.cons (.set 8 (.cmp .In (.var 5) (.lit (.str [40, 32])))) .nil) (.cons (.ifs (.cmp .In (.var 6) (.lit (.str [48, 49, 50, 51, 52, 53, 54, 55, 56, 57]))) (.cons (.set 8 (.bop false (.cons (.cmp .In (.var 5) (.lit (.str [40, 32]))) (.cons (.bop true (.cons (.cmp .Eq (.var 7) (.lit (.str [45]))) (.cons (.cmp .NotEq (.var 6) (.lit (.str [48]))) .nil))) (.cons (.cmp .In (.slc (.lstr (.var 7) (.lit (.str [45]))) .no (.so (.lit (.int 1)))) (.tup (.cons (.lit (.str [49])) (.cons (.lit (.str [50])) (.cons (.lit (.str [51])) (.cons (.lit (.str [52])) (.cons (.lit (.str [53])) (.cons (.lit (.str [54])) (.cons (.lit (.str [55])) (.cons (.lit (.str [56])) (.cons (.lit (.str [57])) .nil))))))))))) .nil))))) .nil) (.cons (.set 8 (.bop true (.cons (.cmp .In (.var 6) (.lit (.str [97, 98, 99, 100, 101, 102, 103, 104, 105, 106, 107, 108, 109, 110, 111, 112, 113, 114, 115, 116, 117, 118, 119, 120, 121, 122]))) (.cons (.bop false (.cons (.cmp .In (.var 5) (.lit (.str [40, 32]))) (.cons (.cmp .In (.slc (.var 7) .no (.so (.lit (.int 1)))) (.pr .tuple (.cons (.lit (.str [97, 98, 99, 100, 101, 102, 103, 104, 105, 106, 107, 108, 109, 110, 111, 112, 113, 114, 115, 116, 117, 118, 119, 120, 121, 122])) .nil))) .nil))) .nil)))) .nil)) .nil)) .nil)) .nil)) .nil)) (.cons (.ifs (.bop false (.cons (.no (.tru (.var 8))) (.cons (.bop true (.cons (.cmp .Eq (.var 1) (.lit (.int 0))) (.cons (.cmp .Gt (.var 2) (.lit (.int 0))) (.cons (.cmp .In (.var 5) (.lit (.str [41, 32]))) .nil)))) .nil))) (.cons (.ret (.var 2)) .nil) .nil) (.cons (.set 1 (.bin .Sub (.bin .Add (.var 1) (.pr .int (.cons (.cmp .Eq (.var 6) (.lit (.str [40]))) .nil))) (.pr .int (.cons (.cmp .Eq (.var 6) (.lit (.str [41]))) .nil)))) .nil)))))))
@[reducible] def l__law_wrong_at_0 : S := .forr (.nm 2) r__law_wrong_at_0 k__law_wrong_at_0
@[reducible] def b__law_wrong_at : Ss := (.cons (.set 1 (.lit (.int 0))) (.cons (l__law_wrong_at_0) (.cons (.set 3 (.bop true (.cons (.cmp .NotEq (.var 0) (.lit (.str []))) (.cons (.cmp .NotIn (.idx (.var 0) (.bin .Sub (.pr .len (.cons (.var 0) .nil)) (.lit (.int 1)))) (.lit (.str [40, 32, 45]))) (.cons (.cmp .Eq (.var 1) (.lit (.int 0))) .nil))))) (.cons (.ret (.ite (.tru (.var 3)) (.lit .non) (.pr .len (.cons (.var 0) .nil)))) .nil))))
@[reducible] def f__law_wrong_at : Fn := ⟨"_law_wrong_at", ["text", "depth", "at", "whole", "other", "last", "sign", "word", "good"], 1, b__law_wrong_at⟩
@[reducible] def r_law_0 : Src := (.rg1 (.lit (.int 8)))
@[reducible] def r_law_1 : Src := (.of (.var 8))
@[reducible] def k_law_1 : Ss := (.cons (.set 10 (.call "next_state" (.cons (.var 10) (.cons (.var 11) .nil)))) .nil)
@[reducible] def l_law_1 : S := .forr (.nm 11) r_law_1 k_law_1
@[reducible] def k_law_0 : Ss := (.cons (.set 7 (.call "_law_value" (.cons (.var 1) (.cons (.var 0) (.cons (.lit (.int 4)) .nil))))) (.cons (.set 8 (.call "_law_text" (.cons (.var 7) .nil))) (.cons (.ifs (.no (.tru (.call "_law_exact" (.cons (.lst (.cons (.var 8) (.cons (.tup (.cons (.var 7) .nil)) (.cons (.lit .non) (.cons (.lit (.bl true)) .nil))))) (.cons (.lst (.cons (.call "write_value" (.cons (.var 7) .nil)) (.cons (.call "read_value" (.cons (.var 8) .nil)) (.cons (.call "first_wrong" (.cons (.var 8) .nil)) (.cons (.call "is_value" (.cons (.var 7) .nil)) .nil))))) .nil))))) (.cons (.ret (.lit (.bl false))) .nil) .nil) (.cons (.par2 15 16 (.call "_law_draw" (.cons (.var 1) (.cons (.var 0) (.cons (.bin .Add (.pr .len (.cons (.var 8) .nil)) (.lit (.int 1))) .nil)))) (.idx (.lit (.str [40, 41, 32, 45, 46, 48, 53, 97, 122, 44, 65])) (.call "_law_draw" (.cons (.var 1) (.cons (.var 0) (.cons (.lit (.int 11)) .nil)))))) (.cons (.set 9 (.idx (.lst (.cons (.bin .Add (.bin .Add (.slc (.var 8) .no (.so (.var 15))) (.var 16)) (.slc (.var 8) (.so (.var 15)) .no)) (.cons (.bin .Add (.slc (.var 8) .no (.so (.var 15))) (.slc (.var 8) (.so (.bin .Add (.var 15) (.lit (.int 1)))) .no)) (.cons (.bin .Add (.bin .Add (.slc (.var 8) .no (.so (.var 15))) (.var 16)) (.slc (.var 8) (.so (.bin .Add (.var 15) (.lit (.int 1)))) .no)) (.cons (.slc (.var 8) .no (.so (.var 15))) .nil))))) (.call "_law_draw" (.cons (.var 1) (.cons (.var 0) (.cons (.lit (.int 4)) .nil)))))) (.cons (.par2 17 18 (.call "_law_wrong_at" (.cons (.var 9) .nil)) (.call "read_value" (.cons (.var 9) .nil))) (.cons (.ifs (.bop false (.cons (.no (.tru (.call "_law_exact" (.cons (.var 17) (.cons (.call "first_wrong" (.cons (.var 9) .nil)) .nil))))) (.cons (.cmp .NotEq (.cmp .Is (.var 17) (.lit .non)) (.cmp .IsNot (.var 18) (.lit .non))) (.cons (.bop true (.cons (.cmp .IsNot (.var 18) (.lit .non)) (.cons (.cmp .NotEq (.call "_law_text" (.cons (.idx (.var 18) (.lit (.int 0))) .nil)) (.var 9)) .nil))) .nil)))) (.cons (.ret (.lit (.bl false))) .nil) .nil) (.cons (.ifs (.bop true (.cons (.no (.tru (.isi (.var 7) .tuple))) (.cons (.no (.tru (.call "_law_exact" (.cons (.var 7) (.cons (.call "value_of" (.cons (.var 8) .nil)) .nil))))) .nil))) (.cons (.ret (.lit (.bl false))) .nil) .nil) (.cons (.set 10 (.lit (.str [115, 116, 97, 114, 116]))) (.cons (l_law_1) (.cons (.ifs (.cmp .Is (.var 10) (.lit .non)) (.cons (.ret (.lit (.bl false))) .nil) .nil) .nil)))))))))))
@[reducible] def l_law_0 : S := .forr (.nm 2) r_law_0 k_law_0
@[reducible] def r_law_2 : Src := (.rg1 (.var 13))
@[reducible] def k_law_2 : Ss := (.cons (.set 14 (.ite (.cmp .Gt (.var 3) (.lit (.int 0))) (.call "_law_draw" (.cons (.var 1) (.cons (.var 0) (.cons (.lit (.int 10)) .nil)))) (.bin .Add (.lit (.int 1)) (.call "_law_draw" (.cons (.var 1) (.cons (.var 0) (.cons (.lit (.int 9)) .nil))))))) (.cons (.par2 4 12 (.bin .Add (.bin .Mult (.var 4) (.lit (.int 10))) (.var 14)) (.bin .Add (.var 12) (.idx (.lit (.str [48, 49, 50, 51, 52, 53, 54, 55, 56, 57])) (.var 14)))) .nil))
@[reducible] def l_law_2 : S := .forr (.nm 3) r_law_2 k_law_2
@[reducible] def r_law_3 : Src := (.of (.tup (.cons (.lit .non) (.cons (.lit (.bl true)) (.cons (.lst (.cons (.lit (.int 1)) .nil)) (.cons (.lit (.str [97, 66])) (.cons (.tup (.cons (.lit (.str [97])) (.cons (.lst (.cons (.lit (.int 1)) .nil)) .nil))) (.cons (.lit (.str [97, 32, 98])) (.cons (.tup (.cons (.lit (.int 1)) (.cons (.lit (.bl false)) .nil))) .nil)))))))))
@[reducible] def e_law_3 : E := (.var 11)
@[reducible] def t_law_3 : E := (.tru (.call "is_value" (.cons (.var 11) .nil)))
@[reducible] def c_law_3 : E := .comp [11] e_law_3 (.nm 11) r_law_3 (.so t_law_3)
@[reducible] def r_law_4 : Src := (.of (.var 6))
@[reducible] def e_law_4 : E := (.var 8)
@[reducible] def t_law_4 : E := (.cmp .NotEq (.call "first_wrong" (.cons (.var 8) .nil)) (.var 5))
@[reducible] def c_law_4 : E := .comp [8, 5] e_law_4 (.tp (.cons (.nm 8) (.cons (.nm 5) .nil))) r_law_4 (.so t_law_4)
@[reducible] def b_law : Ss := (.cons (.set 1 (.new (.lst (.cons (.lit (.int 0)) (.cons (.lit (.int 0)) .nil))))) (.cons (.ifs (.cmp .NotEq (.tup (.cons (.gl "FIGURES" g_FIGURES) (.cons (.gl "LETTERS" g_LETTERS) .nil))) (.tup (.cons (.lit (.str [48, 49, 50, 51, 52, 53, 54, 55, 56, 57])) (.cons (.lit (.str [97, 98, 99, 100, 101, 102, 103, 104, 105, 106, 107, 108, 109, 110, 111, 112, 113, 114, 115, 116, 117, 118, 119, 120, 121, 122])) .nil)))) (.cons (.ret (.lit (.bl false))) .nil) .nil) (.cons (l_law_0) (.cons (.par3 4 12 13 (.lit (.int 1)) (.lit (.str [])) (.bin .Add (.lit (.int 495)) (.call "_law_draw" (.cons (.var 1) (.cons (.var 0) (.cons (.lit (.int 1010)) .nil)))))) (.cons (l_law_2) (.cons (.set 4 (.bin .Sub (.var 4) (.call "_law_power_ten" (.cons (.var 13) .nil)))) (.cons (.set 5 (.lst (.cons (.var 12) (.cons (.var 4) (.cons (.bin .Add (.lit (.str [45])) (.var 12)) (.cons (.neg (.var 4)) (.cons (.call "_law_power_ten" (.cons (.lit (.int 500)) .nil)) .nil))))))) (.cons (.ifs (.no (.tru (.call "_law_exact" (.cons (.var 5) (.cons (.lst (.cons (.call "write_integer" (.cons (.var 4) .nil)) (.cons (.call "read_integer" (.cons (.var 12) .nil)) (.cons (.call "write_integer" (.cons (.neg (.var 4)) .nil)) (.cons (.call "read_integer" (.cons (.bin .Add (.lit (.str [45])) (.var 12)) .nil)) (.cons (.call "piece" .nil) .nil)))))) .nil))))) (.cons (.ret (.lit (.bl false))) .nil) .nil) (.cons (.ifs (.cmp .NotEq c_law_3 (.lst .nil)) (.cons (.ret (.lit (.bl false))) .nil) .nil) (.cons (.set 6 (.lst (.cons (.tup (.cons (.lit (.str [])) (.cons (.lit (.int 0)) .nil))) (.cons (.tup (.cons (.lit (.str [48, 49])) (.cons (.lit (.int 1)) .nil))) (.cons (.tup (.cons (.lit (.str [40, 49, 32, 32, 50, 41])) (.cons (.lit (.int 3)) .nil))) (.cons (.tup (.cons (.lit (.str [45, 48])) (.cons (.lit (.int 1)) .nil))) (.cons (.tup (.cons (.lit (.str [40])) (.cons (.lit (.int 1)) .nil))) (.cons (.tup (.cons (.lit (.str [97, 32, 98])) (.cons (.lit (.int 1)) .nil))) (.cons (.tup (.cons (.lit (.str [40, 97, 32, 41])) (.cons (.lit (.int 3)) .nil))) (.cons (.tup (.cons (.lit (.str [46, 46])) (.cons (.lit (.int 1)) .nil))) (.cons (.tup (.cons (.lit (.str [97, 49])) (.cons (.lit (.int 1)) .nil))) (.cons (.tup (.cons (.lit (.str [40, 41, 40])) (.cons (.lit (.int 2)) .nil))) .nil)))))))))))) (.cons (.ret (.bop true (.cons (.cmp .Eq c_law_4 (.lst .nil)) (.cons (.cmp .Is (.call "next_state" (.cons (.lit (.str [115, 116, 97, 114, 116])) (.cons (.lit (.str [32])) .nil))) (.lit .non)) .nil)))) .nil)))))))))))
@[reducible] def f_law : Fn := ⟨"law", ["script", "state", "turn", "j", "great", "due", "rows", "value", "text", "bent", "here", "one", "figures", "size", "figure", "at", "sign", "wrong", "back"], 1, b_law⟩
def pfree : List Str := ["isinstance", "tuple", "all", "str", "bool", "int", "abs", "len", "enumerate", "list", "range"]
def pglobs : List (Str × D) := [("LETTERS", g_LETTERS), ("FIGURES", g_FIGURES)]
def pbf : List (Str × String) := []
def Pg : Prog := ⟨[f_is_value, f_piece, f_write_integer, f_read_integer, f_write_value, f_next_state, f_first_wrong, f_read_value, f_value_of, f__law_refill, f__law_draw, f__law_exact, f__law_value, f__law_text, f__law_power_ten, f__law_wrong_at, f_law], pglobs, pfree⟩
end MP.k75

namespace MP.k75
open PySem
open PySem.Spec
open PyProof.Rows
open L2
open MP
open NumText TL

/-! ### figures -/
theorem numL_split : ∀ (k a r : Nat), 0 < a → r < 10 ^ k → numL (a * 10 ^ k + r) = numL a ++ (numL (10 ^ k + r)).tail
  | 0, a, r, ha, hr => by
    have : r = 0 := by simpa using hr
    subst this
    simp [numL_lt (show 1 < 10 by decide)]
  | k + 1, a, r, ha, hr => by
    have hp : 0 < 10 ^ k := Nat.pow_pos (by decide)
    have ha' : 10 ^ k ≤ a * 10 ^ k := Nat.le_mul_of_pos_left _ ha
    have e1 : a * 10 ^ (k + 1) = a * 10 ^ k * 10 := by rw [Nat.pow_succ, Nat.mul_assoc]
    have e2 : 10 ^ (k + 1) = 10 ^ k * 10 := Nat.pow_succ ..
    rw [e2] at hr
    have ih := numL_split k a (r / 10) ha (by omega)
    rw [e1, e2]
    generalize 10 ^ k = m at *
    have i := numL_step (n := a * m * 10 + r) (by omega)
    have j := numL_step (n := m * 10 + r) (by omega)
    have d1 : (a * m * 10 + r) / 10 = a * m + r / 10 := by omega
    have d2 : (m * 10 + r) / 10 = m + r / 10 := by omega
    have d3 : (a * m * 10 + r) % 10 = r % 10 := by omega
    have d4 : (m * 10 + r) % 10 = r % 10 := by omega
    rw [i, j, d1, d2, d3, d4, ih, List.tail_append_of_ne_nil (numL_ne _), List.append_assoc]
theorem dv_snoc (x : List Nat) (c : Nat) : digitsVal (x ++ [c]) = digitsVal x * 10 + (c - 48) := by
  unfold digitsVal
  rw [List.foldl_append]; rfl
theorem snoc_ind {α : Type} {P : List α → Prop} (h0 : P []) (h1 : ∀ l x, P l → P (l ++ [x])) (l : List α) : P l := by
  have : ∀ r : List α, P r.reverse := fun r => by
    induction r with
    | nil => exact h0
    | cons a r ih => rw [List.reverse_cons]; exact h1 _ _ ih
  have q := this l.reverse
  rwa [List.reverse_reverse] at q
theorem dv_app (x y : List Nat) : digitsVal (x ++ y) = digitsVal x * 10 ^ y.length + digitsVal y := by
  induction y using snoc_ind with
  | h0 => simp [digitsVal]
  | h1 y c ih =>
    rw [← List.append_assoc, dv_snoc, dv_snoc, ih, List.length_append]
    show _ = _ * 10 ^ (y.length + 1) + _
    rw [Nat.pow_succ, ← Nat.mul_assoc, Nat.add_mul]
    omega
theorem AllD.app {x y : List Nat} (h : AllDigits x) (k : AllDigits y) : AllDigits (x ++ y) := fun c hc => (List.mem_append.mp hc).elim (h c) (k c)
theorem AllD.left {x y : List Nat} (h : AllDigits (x ++ y)) : AllDigits x := fun c hc => h c (List.mem_append_left _ hc)
theorem AllD.right {x y : List Nat} (h : AllDigits (x ++ y)) : AllDigits y := fun c hc => h c (List.mem_append_right _ hc)
theorem AllD.one {c : Nat} (h : 48 ≤ c ∧ c ≤ 57) : AllDigits [c] := fun d hd => by rw [List.mem_singleton.mp hd]; exact h
theorem dv_lt (x : List Nat) : AllDigits x → digitsVal x < 10 ^ x.length := by
  induction x using snoc_ind with
  | h0 => intro _; simp [digitsVal]
  | h1 y c ih =>
    intro h
    have hy := ih (AllD.left h)
    have hc := h c (by simp)
    rw [dv_snoc, List.length_append]
    show _ < 10 ^ (y.length + 1)
    rw [Nat.pow_succ]
    omega
theorem dv_pow (k : Nat) : digitsVal (49 :: List.replicate k 48) = 10 ^ k := by
  have e : 49 :: List.replicate k 48 = [49] ++ List.replicate k 48 := rfl
  have z : ∀ k, digitsVal (List.replicate k 48) = 0 := fun k => by
    induction k with
    | zero => rfl
    | succ k ih => rw [List.replicate_succ', dv_snoc, ih]
  rw [e, dv_app, z, List.length_replicate]
  show 1 * 10 ^ k + 0 = _
  omega
/-- figures as a number is told -/
def Canon (s : List Nat) : Prop := AllDigits s ∧ s ≠ [] ∧ (s = [48] ∨ s.head? ≠ some 48)
theorem dv_pos {s : List Nat} (h : AllDigits s) (hn : s ≠ []) (hh : s.head? ≠ some 48) : 0 < digitsVal s := by
  cases s with
  | nil => exact absurd rfl hn
  | cons a r =>
    have ha := h a (by simp)
    have ha2 : a ≠ 48 := fun e => hh (by rw [e]; rfl)
    have e : a :: r = [a] ++ r := rfl
    rw [e, dv_app]
    have e1 : digitsVal [a] = a - 48 := by show 0 * 10 + (a - 48) = _; omega
    rw [e1]
    have : 0 < 10 ^ r.length := Nat.pow_pos (by decide)
    have h2 : 1 * 10 ^ r.length ≤ (a - 48) * 10 ^ r.length := Nat.mul_le_mul_right _ (by omega)
    omega
theorem numL_dv (s : List Nat) : Canon s → numL (digitsVal s) = s := by
  induction s using snoc_ind with
  | h0 => intro h; exact absurd rfl h.2.1
  | h1 t c ih =>
    intro h
    have hc := h.1 c (by simp)
    rw [dv_snoc]
    cases t with
    | nil =>
      show numL (0 * 10 + (c - 48)) = [c]
      rw [numL_lt (by omega)]
      congr 1; omega
    | cons a r =>
      have hd : AllDigits (a :: r) := AllD.left h.1
      have hh : (a :: r).head? ≠ some 48 := by
        rcases h.2.2 with e | e
        · simp at e
        · simpa using e
      have hp := dv_pos hd (by simp) hh
      rw [numL_step (by omega)]
      have e1 : (digitsVal (a :: r) * 10 + (c - 48)) / 10 = digitsVal (a :: r) := by omega
      have e2 : (digitsVal (a :: r) * 10 + (c - 48)) % 10 = c - 48 := by omega
      rw [e1, e2, ih ⟨hd, by simp, .inr hh⟩]
      congr 2; omega
theorem numL_canon (n : Nat) : Canon (numL n) := by
  refine ⟨numL_digits n, numL_ne n, ?_⟩
  by_cases h0 : n = 0
  · subst h0; exact .inl (numL_lt (by decide))
  · refine .inr ?_
    induction n using
                                                                Nat.strongRecOn with
    | _ n ih =>
      by_cases h : n < 10
      · rw [numL_lt h]
        simp
        omega
      · rw [numL_step (by omega)]
        have i := ih (n / 10) (by omega) (by omega)
        cases e : numL (n / 10) with
        | nil => exact absurd e (numL_ne _)
        | cons a r => rw [e] at i; simpa using i
/-- an int's text -/
def txtI (z : Int) : List Nat := (if z < 0 then [45] else []) ++ numL z.natAbs
theorem cs_nat (n : Nat) : cs (toString ((n : Nat) : Int)) = numL n := by
  rw [← tl_num]; exact (tl_ofString _).symm
theorem cs_int (z : Int) : cs (toString z) = txtI z := by
  cases z with
  | ofNat n => rw [Int.ofNat_eq_natCast, cs_nat]; unfold txtI; rw [if_neg (by omega)]; simp
  | negSucc n =>
    have e : toString (Int.negSucc n) = "-" ++ toString (((n + 1 : Nat)) : Int) := rfl
    rw [e]
    unfold txtI
    rw [if_pos (by omega)]
    have e2 : cs ("-" ++ toString (((n + 1 : Nat)) : Int)) = cs "-" ++ cs (toString (((n + 1 : Nat)) : Int)) := by
      unfold cs; rw [String.toList_append, List.map_append]
    rw [e2, cs_nat]
    rfl

/-! ### the states -/
inductive Q where
  | start | gap | opn | endd | minus | number | nought | word
  deriving DecidableEq
@[reducible] def Q.code : Q → List Nat
  | .start => [115, 116, 97, 114, 116]
  | .gap => [103, 97, 112]
  | .opn => [111, 112, 101, 110]
  | .endd => [101, 110, 100]
  | .minus => [109, 105, 110, 117, 115]
  | .number => [110, 117, 109, 98, 101, 114]
  | .nought => [110, 111, 117, 103, 104, 116]
  | .word => [119, 111, 114, 100]
abbrev digs : List Nat := [48, 49, 50, 51, 52, 53, 54, 55, 56, 57]
abbrev letters : List Nat := [97, 98, 99, 100, 101, 102, 103, 104, 105, 106, 107, 108, 109, 110, 111, 112, 113, 114, 115, 116, 117, 118, 119, 120, 121, 122]
theorem mem_digs {c : Nat} : c ∈ digs ↔ 48 ≤ c ∧ c ≤ 57 := by
  simp only [List.mem_cons, List.not_mem_nil, or_false]; omega
theorem mem_let {c : Nat} : c ∈ letters ↔ 97 ≤ c ∧ c ≤ 122 := by
  simp only [List.mem_cons, List.not_mem_nil, or_false]; omega
def NS (q : Q) (c : Nat) : Option Q :=
  if q = .start ∨ q = .gap ∨ q = .opn then
    if c = 40 then some .opn
    else if c = 41 then (if q = .opn then some .endd else none)
    else if c = 45 then some .minus
    else if c ∈ digs then (if c = 48 then some .nought else some .number)
    else if c = 46 then some .endd
    else if c ∈ letters then some .word else none
  else if q = .minus then (if c ∈ digs ∧ c ≠ 48 then some .number else none)
  else if (q = .number ∧ c ∈ digs) ∨ (q = .word ∧ c ∈ letters) then some q
  else if c = 32 then some .gap else if c = 41 then some .endd else none
def dgo (c : Nat) : Int := (if c = 40 then 1 else 0) - (if c = 41 then 1 else 0)
def fin (q : Q) : Prop := q = .nought ∨ q = .number ∨ q = .word ∨ q = .endd
instance : DecidablePred fin := fun q => by unfold fin; infer_instance
def bad (dep : Int) (at' : Nat) (q' : Q) (c : Nat) : Prop := dep = 0 ∧ 0 < at' ∧ (q' = .gap ∨ c = 41)
instance {dep : Int} {a : Nat} {q : Q} {c : Nat} : Decidable (bad dep a q c) := by unfold bad; infer_instance
def FW (q : Q) (dep : Int) (at' : Nat) : List Nat → Option Nat
  | [] => if dep = 0 ∧ fin q then none else some at'
  | c :: s => match NS q c with
    | none => some at'
    | some q' => if bad dep at' q' c then some at' else FW q' (dep + dgo c) (at' + 1) s

/-! ### the law's own reading -/
def stepW (w : List Nat) (c : Nat) : List Nat := if c ∈ [40, 32, 41] then [] else w ++ [c]
def wordOf (p : List Nat) : List Nat := p.foldl stepW []
def lastOf (p : List Nat) : Nat := p.getLast?.getD 40
theorem wordOf_snoc (p : List Nat) (c : Nat) : wordOf (p ++ [c]) = stepW (wordOf p) c := by unfold wordOf; rw [List.foldl_append]; rfl
theorem lastOf_snoc (p : List Nat) (c : Nat) : lastOf (p ++ [c]) = c := by unfold lastOf; simp
def whole (p : List Nat) : Prop := lastOf p = 41 ∨ (wordOf p ≠ [] ∧ wordOf p ≠ [45])
instance {p : List Nat} : Decidable (whole p) := by unfold whole; infer_instance
def ones (l : List Nat) : List (List Nat) := l.map fun z => [z]
def good (p : List Nat) (dep : Int) (c : Nat) : Prop :=
  if c = 40 then lastOf p ∈ [40, 32]
  else if c = 41 then 0 < dep ∧ (whole p ∨ lastOf p = 40)
  else if c = 32 then 0 < dep ∧ whole p
  else if c = 46 ∨ c = 45 then lastOf p ∈ [40, 32]
  else if c ∈ digs then lastOf p ∈ [40, 32] ∨ (wordOf p = [45] ∧ c ≠ 48) ∨ ((wordOf p).dropWhile fun z => decide (z ∈ [45])).take 1 ∈ ones [49, 50, 51, 52, 53, 54, 55, 56, 57]
  else c ∈ letters ∧ (lastOf p ∈ [40, 32] ∨ (wordOf p).take 1 ∈ ones letters)
instance {p : List Nat} {dep : Int} {c : Nat} : Decidable (good p dep c) := by unfold good; infer_instance
def LW (p : List Nat) (dep : Int) : List Nat → Option Nat
  | [] => if p ≠ [] ∧ lastOf p ∉ [40, 32, 45] ∧ dep = 0 then none else some p.length
  | c :: s => if ¬ good p dep c ∨ (dep = 0 ∧ 0 < p.length ∧ lastOf p ∈ [41, 32]) then some p.length else LW (p ++ [c]) (dep + dgo c) s
def Rel (q : Q) (p : List Nat) : Prop := match q with
  | .start => p = []
  | .opn => p ≠ [] ∧ lastOf p = 40 ∧ wordOf p = []
  | .gap => p ≠ [] ∧ lastOf p = 32 ∧ wordOf p = []
  | .endd => p ≠ [] ∧ ((lastOf p = 41 ∧ wordOf p = []) ∨ (lastOf p = 46 ∧ wordOf p = [46]))
  | .minus => p ≠ [] ∧ lastOf p = 45 ∧ wordOf p = [45]
  | .number => p ≠ [] ∧ (48 ≤ lastOf p ∧ lastOf p ≤ 57) ∧ ∃ m f r, wordOf p = m ++ f :: r ∧ (m = [] ∨ m = [45]) ∧ 49 ≤ f ∧ f ≤ 57
  | .nought => p ≠ [] ∧ lastOf p = 48 ∧ wordOf p = [48]
  | .word => p ≠ [] ∧ (97 ≤ lastOf p ∧ lastOf p ≤ 122) ∧ ∃ f r, wordOf p = f :: r ∧ 97 ≤ f ∧ f ≤ 122
def J (q : Q) (p : List Nat) (dep : Int) : Prop := Rel q p ∧ 0 ≤ dep ∧ ((q = .opn ∨ q = .gap) → 0 < dep) ∧ (q = .start → dep = 0)
@[reducible] def st3 (q : Q) : Prop := q = .start ∨ q = .gap ∨ q = .opn
structure Fc (q : Q) (p : List Nat) : Prop where
  lead : lastOf p ∈ [40, 32] ↔ st3 q
  wh : whole p ↔ fin q
  l40 : lastOf p = 40 ↔ q = .start ∨ q = .opn
  t1 : ((wordOf p).dropWhile fun z => decide (z ∈ [45])).take 1 ∈ ones [49, 50, 51, 52, 53, 54, 55, 56, 57] ↔ q = .number
  t2 : (wordOf p).take 1 ∈ ones letters ↔ q = .word
  w45 : wordOf p = [45] ↔ q = .minus
  la : lastOf p ∈ [41, 32] → q = .gap ∨ q = .endd
  emp : p = [] ↔ q = .start
  lm : lastOf p ∈ [40, 32, 45] ↔ st3 q ∨ q = .minus
theorem mem_ones {x : List Nat} {l : List Nat} : x ∈ ones l ↔ ∃ z ∈ l, x = [z] := by
  unfold ones; rw [List.mem_map]
  exact ⟨fun ⟨z, h, e⟩ => ⟨z, h, e.symm⟩, fun ⟨z, h, e⟩ => ⟨z, h, e.symm⟩⟩
theorem mem_19 {c : Nat} : c ∈ [49, 50, 51, 52, 53, 54, 55, 56, 57] ↔ 49 ≤ c ∧ c ≤ 57 := by
  simp only [List.mem_cons, List.not_mem_nil, or_false]; omega
theorem one_ones {z : Nat} {l : List Nat} : [z] ∈ ones l ↔ z ∈ l := by
  rw [mem_ones]; simp
theorem nil_ones {l : List Nat} : [] ∈ ones l ↔ False := by
  rw [mem_ones]; simp
theorem facts {q : Q} {p : List Nat} (r : Rel q p) : Fc q p := by
  cases q with
  | start =>
    have r : p = [] := r
    subst r
    constructor <;> simp [lastOf, wordOf, whole, fin, st3, nil_ones]
  | opn => obtain ⟨r0, r1, r2⟩ := r; constructor <;> simp [r0, r1, r2, whole, fin, st3, nil_ones]
  | gap => obtain ⟨r0, r1, r2⟩ := r; constructor <;> simp [r0, r1, r2, whole, fin, st3, nil_ones]
  | endd =>
    obtain ⟨r0, ⟨r1, r2⟩ | ⟨r1, r2⟩⟩ := r
    · constructor <;> simp [r0, r1, r2, whole, fin, st3, nil_ones]
    · constructor <;> simp [r0, r1, r2, whole, fin, st3, one_ones]
  | minus => obtain ⟨r0, r1, r2⟩ := r; constructor <;> simp [r0, r1, r2, whole, fin, st3, nil_ones, one_ones]
  | nought => obtain ⟨r0, r1, r2⟩ := r; constructor <;> simp [r0, r1, r2, whole, fin, st3, nil_ones, one_ones]
  | word =>
    obtain ⟨r0, r1, f, r, r2, r3, r4⟩ := r
    have n45 : f ≠ 45 := by omega
    have hl : f ∈ letters := mem_let.mpr ⟨r3, r4⟩
    have h19 : f ∉ [49, 50, 51, 52, 53, 54, 55, 56, 57] := fun z => by have := mem_19.mp z; omega
    constructor
    · exact iff_of_false (by simp only [List.mem_cons, List.not_mem_nil, or_false]; omega) (by simp [st3])
    · simp [whole, fin, r2, n45]
    · simp; omega
    · rw [r2, List.dropWhile_cons_of_neg (by simp [n45])]
      show [f] ∈ ones _ ↔ _
      rw [one_ones]
      exact iff_of_false h19 (by simp)
    · rw [r2]
      show [f] ∈ ones _ ↔ _
      rw [one_ones]
      exact iff_of_true hl rfl
    · rw [r2]; simp [n45]
    · simp only [List.mem_cons, List.not_mem_nil, or_false]; omega
    · simp [r0]
    · exact iff_of_false (by simp only [List.mem_cons, List.not_mem_nil, or_false]; omega) (by simp [st3])
  | number =>
    obtain ⟨r0, r1, m, f, r, r2, hm, r3, r4⟩ := r
    have n45 : f ≠ 45 := by omega
    have hl : f ∉ letters := fun z => by have := mem_let.mp z; omega
    have h19 : f ∈ [49, 50, 51, 52, 53, 54, 55, 56, 57] := mem_19.mpr ⟨r3, r4⟩
    have d : (m ++ f :: r).dropWhile (fun z => decide (z ∈ [45])) = f :: r := by
      rcases hm with rfl | rfl
      · rw [List.nil_append, List.dropWhile_cons_of_neg (by simp [n45])]
      · show List.dropWhile _ (45 :: f :: r) = _
        rw [List.dropWhile_cons_of_pos (by simp), List.dropWhile_cons_of_neg (by simp [n45])]
    have t : ∃ z, (m ++ f :: r).take 1 = [z] ∧ z ∉ letters := by
      rcases hm with rfl | rfl
      · exact ⟨f, rfl, hl⟩
      · exact ⟨45, rfl, by decide⟩
    have ne : m ++ f :: r ≠ [] := by simp
    have n2 : m ++ f :: r ≠ [45] := by rcases hm with rfl | rfl <;> simp [n45]
    constructor
    · exact iff_of_false (by simp only [List.mem_cons, List.not_mem_nil, or_false]; omega) (by simp [st3])
    · rw [whole, r2]; simp [fin, n2, ne]
    · simp; omega
    · rw [r2, d]
      show [f] ∈ ones _ ↔ _
      rw [one_ones]
      exact iff_of_true h19 rfl
    · obtain ⟨z, e, hz⟩ := t
      rw [r2, e, one_ones]
      exact iff_of_false hz (by simp)
    · rw [r2]; exact iff_of_false n2 (by simp)
    · simp only [List.mem_cons, List.not_mem_nil, or_false]; omega
    · simp [r0]
    · exact iff_of_false (by simp only [List.mem_cons, List.not_mem_nil, or_false]; omega) (by simp [st3])
def gq (q : Q) (dep : Int) (c : Nat) : Prop :=
  if c = 40 then st3 q
  else if c = 41 then 0 < dep ∧ (fin q ∨ (q = .start ∨ q = .opn))
  else if c = 32 then 0 < dep ∧ fin q
  else if c = 46 ∨ c = 45 then st3 q
  else if c ∈ digs then st3 q ∨ (q = .minus ∧ c ≠ 48) ∨ q = .number
  else c ∈ letters ∧ (st3 q ∨ q = .word)
theorem good_gq {q : Q} {p : List Nat} (f : Fc q p) (dep : Int) (c : Nat) : good p dep c ↔ gq q dep c := by
  unfold good gq
  rw [f.lead, f.wh, f.l40, f.t1, f.t2, f.w45]
inductive Ch : Nat → Prop where
  | op : Ch 40 | cl : Ch 41 | sp : Ch 32 | dot : Ch 46 | mi : Ch 45 | ze : Ch 48
  | dg (c : Nat) : 49 ≤ c → c ≤ 57 → Ch c
  | lt (c : Nat) : 97 ≤ c → c ≤ 122 → Ch c
  | ot (c : Nat) : c ≠ 40 → c ≠ 41 → c ≠ 32 → c ≠ 46 → c ≠ 45 → c ∉ digs → c ∉ letters → Ch c
theorem ch (c : Nat) : Ch c := by
  by_cases h1 : c = 40; · subst h1; exact .op
  by_cases h2 : c = 41; · subst h2; exact .cl
  by_cases h3 : c = 32; · subst h3; exact .sp
  by_cases h4 : c = 46; · subst h4; exact .dot
  by_cases h5 : c = 45; · subst h5; exact .mi
  by_cases h6 : c = 48; · subst h6; exact .ze
  by_cases h7 : 49 ≤ c ∧ c ≤ 57; · exact .dg c h7.1 h7.2
  by_cases h8 : 97 ≤ c ∧ c ≤ 122; · exact .lt c h8.1 h8.2
  exact .ot c h1 h2 h3 h4 h5 (fun z => by have := mem_digs.mp z; omega) fun z => h8 (mem_let.mp z)
/-- what a sign does -/
theorem ns_dg {q : Q} {c : Nat} (h1 : 49 ≤ c) (h2 : c ≤ 57) : NS q c = if st3 q ∨ q = .minus ∨ q = .number then some .number else none := by
  have a1 : c ≠ 40 := by omega
  have a2 : c ≠ 41 := by omega
  have a3 : c ≠ 32 := by omega
  have a4 : c ≠ 46 := by omega
  have a5 : c ≠ 45 := by omega
  have a6 : c ≠ 48 := by omega
  have a7 : c ∈ digs := mem_digs.mpr ⟨by omega, h2⟩
  have a8 : c ∉ letters := fun z => by have := mem_let.mp z; omega
  unfold NS
  cases q <;> simp only [a1, a2, a3, a4, a5, a6, a7, a8] <;> simp [a6]
theorem ns_lt {q : Q} {c : Nat} (h1 : 97 ≤ c) (h2 : c ≤ 122) : NS q c = if st3 q ∨ q = .word then some .word else none := by
  have a1 : c ≠ 40 := by omega
  have a2 : c ≠ 41 := by omega
  have a3 : c ≠ 32 := by omega
  have a4 : c ≠ 46 := by omega
  have a5 : c ≠ 45 := by omega
  have a7 : c ∉ digs := fun z => by have := mem_digs.mp z; omega
  have a8 : c ∈ letters := mem_let.mpr ⟨h1, h2⟩
  unfold NS
  cases q <;> simp only [a1, a2, a3, a4, a5, a7, a8] <;> simp
theorem ns_ot {q : Q} {c : Nat} (a1 : c ≠ 40) (a2 : c ≠ 41) (a3 : c ≠ 32) (a4 : c ≠ 46) (a5 : c ≠ 45) (a7 : c ∉ digs) (a8 : c ∉ letters) : NS q c = none := by
  unfold NS
  cases q <;> simp only [a1, a2, a3, a4, a5, a7, a8] <;> simp
theorem ns_40 {q : Q} : NS q 40 = if st3 q then some .opn else none := by cases q <;> rfl
theorem ns_41 {q : Q} : NS q 41 = if fin q ∨ q = .opn then some .endd else none := by cases q <;> rfl
theorem ns_32 {q : Q} : NS q 32 = if fin q then some .gap else none := by cases q <;> rfl
theorem ns_46 {q : Q} : NS q 46 = if st3 q then some .endd else none := by cases q <;> rfl
theorem ns_45 {q : Q} : NS q 45 = if st3 q then some .minus else none := by cases q <;> rfl
theorem ns_48 {q : Q} : NS q 48 = if st3 q then some .nought else if q = .number then some .number else none := by cases q <;> rfl
theorem st3_word {q : Q} {p : List Nat} (r : Rel q p) (h : st3 q) : wordOf p = [] := by
  rcases h with rfl | rfl | rfl
  · have r : p = [] := r
    subst r; rfl
  · exact r.2.2
  · exact r.2.2
theorem ne_snoc {p : List Nat} {c : Nat} : p ++ [c] ≠ [] := by simp
theorem word_more {p : List Nat} {c : Nat} (h : c ∉ [40, 32, 41]) : wordOf (p ++ [c]) = wordOf p ++ [c] := by
  rw [wordOf_snoc]; unfold stepW; rw [if_neg h]
theorem word_none {p : List Nat} {c : Nat} (h : c ∈ [40, 32, 41]) : wordOf (p ++ [c]) = [] := by
  rw [wordOf_snoc]; unfold stepW; rw [if_pos h]
def ErrL (p : List Nat) (dep : Int) : Prop := dep = 0 ∧ 0 < p.length ∧ lastOf p ∈ [41, 32]
theorem step {q : Q} {p : List Nat} {dep : Int} (j : J q p dep) (c : Nat) :
    (∃ q', NS q c = some q' ∧ ¬ bad dep p.length q' c ∧ good p dep c ∧ ¬ ErrL p dep ∧ J q' (p ++ [c]) (dep + dgo c)) ∨
    ((NS q c = none ∨ ∃ q', NS q c = some q' ∧ bad dep p.length q' c) ∧ (¬ good p dep c ∨ ErrL p dep)) := by
  obtain ⟨r, d0, dp, ds⟩ := j
  have f := facts r
  rw [good_gq f]
  have pos : q ≠ .start → 0 < p.length := fun h => List.length_pos_iff.mpr fun z => h (f.emp.mp z)
  have e3 : st3 q → ¬ ErrL p dep := fun h ⟨z1, z2, z3⟩ => by
    rcases f.la z3 with rfl | rfl
    · have := dp (.inr rfl); omega
    · simp [st3] at h
  have eo : q = .minus ∨ q = .number ∨ q = .word → ¬ ErrL p dep := fun h ⟨z1, z2, z3⟩ => by
    rcases f.la z3 with rfl | rfl <;> simp at h
  have nb : ∀ q' c, q' ≠ .gap → c ≠ 41 → ¬ bad dep p.length q' c := fun q' c h1 h2 ⟨_, _, z⟩ => z.elim h1 h2
  cases ch c with
  | op =>
    by_cases h : st3 q
    · exact .inl ⟨.opn, by rw [ns_40, if_pos h], nb _ _ (by simp) (by decide), h, e3 h, ⟨ne_snoc, lastOf_snoc _ _, word_none (by decide)⟩, by show 0 ≤ dep + 1; omega, fun _ => by show 0 < dep + 1; omega, fun z => by cases z⟩
    · exact .inr ⟨.inl (by rw [ns_40, if_neg h]), .inl h⟩
  | cl =>
    by_cases h : fin q ∨ q = .opn
    · have hs : q ≠ .start := fun z => by subst z; simp [fin] at h
      by_cases hd : dep = 0
      · exact .inr ⟨.inr ⟨.endd, by rw [ns_41, if_pos h], hd, pos hs, .inr rfl⟩, .inl fun z => by have : 0 < dep := z.1; omega⟩
      · exact .inl ⟨.endd, by rw [ns_41, if_pos h], fun z => hd z.1, (⟨by omega, h.imp id .inr⟩ : 0 < dep ∧ (fin q ∨ (q = .start ∨ q = .opn))), fun z => hd z.1, ⟨ne_snoc, .inl ⟨lastOf_snoc _ _, word_none (by decide)⟩⟩, by show 0 ≤ dep + -1; omega, fun z => by simp at z, fun z => by cases z⟩
    · refine .inr ⟨.inl (by rw [ns_41, if_neg h]), .inl fun z => ?_⟩
      have z : 0 < dep ∧ (fin q ∨ (q = .start ∨ q = .opn)) := z
      rcases z.2 with y | y | y
      · exact h (.inl y)
      · have := ds y; omega
      · exact h (.inr y)
  | sp =>
    by_cases h : fin q
    · have hs : q ≠ .start := fun z => by subst z; simp [fin] at h
      by_cases hd : dep = 0
      · exact .inr ⟨.inr ⟨.gap, by rw [ns_32, if_pos h], hd, pos hs, .inl rfl⟩, .inl fun z => by have : 0 < dep := z.1; omega⟩
      · exact .inl ⟨.gap, by rw [ns_32, if_pos h], fun z => hd z.1, (⟨by omega, h⟩ : 0 < dep ∧ fin q), fun z => hd z.1, ⟨ne_snoc, lastOf_snoc _ _, word_none (by decide)⟩, by show 0 ≤ dep + 0; omega, fun _ => by show 0 < dep + 0; omega, fun z => by cases z⟩
    · exact .inr ⟨.inl (by rw [ns_32, if_neg h]), .inl fun z => h z.2⟩
  | dot =>
    by_cases h : st3 q
    · exact .inl ⟨.endd, by rw [ns_46, if_pos h], nb _ _ (by simp) (by decide), h, e3 h, ⟨ne_snoc, .inr ⟨lastOf_snoc _ _, by rw [word_more (by decide), st3_word r h]; rfl⟩⟩, by show 0 ≤ dep + 0; omega, fun z => by simp at z, fun z => by cases z⟩
    · exact .inr ⟨.inl (by rw [ns_46, if_neg h]), .inl h⟩
  | mi =>
    by_cases h : st3 q
    · exact .inl ⟨.minus, by rw [ns_45, if_pos h], nb _ _ (by simp) (by decide), h, e3 h, ⟨ne_snoc, lastOf_snoc _ _, by rw [word_more (by decide), st3_word r h]; rfl⟩, by show 0 ≤ dep + 0; omega, fun z => by simp at z, fun z => by cases z⟩
    · exact .inr ⟨.inl (by rw [ns_45, if_neg h]), .inl h⟩
  | ze =>
    by_cases h : st3 q
    · exact .inl ⟨.nought, by rw [ns_48, if_pos h], nb _ _ (by simp) (by decide), (.inl h : st3 q ∨ (q = .minus ∧ 48 ≠ 48) ∨ q = .number), e3 h, ⟨ne_snoc, lastOf_snoc _ _, by rw [word_more (by decide), st3_word r h]; rfl⟩, by show 0 ≤ dep + 0; omega, fun z => by simp at z, fun z => by cases z⟩
    · by_cases h2 : q = .number
      · subst h2
        obtain ⟨r0, r1, m, f', r', r2, hm, r3, r4⟩ := r
        exact .inl ⟨.number, rfl, nb _ _ (by simp) (by decide), (.inr (.inr rfl) : st3 .number ∨ (Q.number = .minus ∧ 48 ≠ 48) ∨ Q.number = .number), eo (by simp),
          ⟨ne_snoc, by rw [lastOf_snoc]; decide, m, f', r' ++ [48], by rw [word_more (by decide), r2]; simp, hm, r3, r4⟩, by show 0 ≤ dep + 0; omega, fun z => by simp at z, fun z => by cases z⟩
      · refine .inr ⟨.inl (by rw [ns_48, if_neg h, if_neg h2]), .inl fun z => ?_⟩
        have z : st3 q ∨ (q = .minus ∧ 48 ≠ 48) ∨ q = .number := z
        rcases z with z | z | z
        · exact h z
        · exact z.2 rfl
        · exact h2 z
  | dg _ h1 h2 =>
    have a1 : c ≠ 40 := by omega
    have a2 : c ≠ 41 := by omega
    have a3 : c ≠ 32 := by omega
    have a4 : ¬ (c = 46 ∨ c = 45) := by omega
    have a6 : c ≠ 48 := by omega
    have a7 : c ∈ digs := mem_digs.mpr ⟨by omega, h2⟩
    have hw : c ∉ [40, 32, 41] := by simp only [List.mem_cons, List.not_mem_nil, or_false]; omega
    have eg : gq q dep c = (st3 q ∨ (q = .minus ∧ c ≠ 48) ∨ q = .number) := by unfold gq; rw [if_neg a1, if_neg a2, if_neg a3, if_neg a4, if_pos a7]
    have ed : dep + dgo c = dep := by unfold dgo; rw [if_neg a1, if_neg a2]; omega
    rw [eg, ed]
    by_cases h : st3 q ∨ q = .minus ∨ q = .number
    · refine .inl ⟨.number, by rw [ns_dg h1 h2, if_pos h], nb _ _ (by simp) a2, h.imp id fun z => z.imp (fun y => ⟨y, a6⟩) id, h.elim e3 fun z => eo (z.imp id .inl), ⟨ne_snoc, by rw [lastOf_snoc]; omega, ?_⟩, d0, fun z => by simp at z, fun z => by cases z⟩
      rw [word_more hw]
      rcases h with h | rfl | rfl
      · rw [st3_word r h]
        exact ⟨[], c, [], rfl, .inl rfl, h1, h2⟩
      · rw [r.2.2]
        exact ⟨[45], c, [], rfl, .inr rfl, h1, h2⟩
      · obtain ⟨r0, r1, m, f', r', r2, hm, r3, r4⟩ := r
        exact ⟨m, f', r' ++ [c], by rw [r2]; simp, hm, r3, r4⟩
    · refine .inr ⟨.inl (by rw [ns_dg h1 h2, if_neg h]), .inl fun z => h (z.imp id fun y => y.imp And.left id)⟩
  | lt _ h1 h2 =>
    have a1 : c ≠ 40 := by omega
    have a2 : c ≠ 41 := by omega
    have a3 : c ≠ 32 := by omega
    have a4 : ¬ (c = 46 ∨ c = 45) := by omega
    have a7 : c ∉ digs := fun z => by have := mem_digs.mp z; omega
    have a8 : c ∈ letters := mem_let.mpr ⟨h1, h2⟩
    have hw : c ∉ [40, 32, 41] := by simp only [List.mem_cons, List.not_mem_nil, or_false]; omega
    have eg : gq q dep c = (c ∈ letters ∧ (st3 q ∨ q = .word)) := by unfold gq; rw [if_neg a1, if_neg a2, if_neg a3, if_neg a4, if_neg a7]
    have ed : dep + dgo c = dep := by unfold dgo; rw [if_neg a1, if_neg a2]; omega
    rw [eg, ed]
    by_cases h : st3 q ∨ q = .word
    · refine .inl ⟨.word, by rw [ns_lt h1 h2, if_pos h], nb _ _ (by simp) a2, ⟨a8, h⟩, h.elim e3 fun z => eo (.inr (.inr z)), ⟨ne_snoc, by rw [lastOf_snoc]; omega, ?_⟩, d0, fun z => by simp at z, fun z => by cases z⟩
      rw [word_more hw]
      rcases h with h | rfl
      · rw [st3_word r h]
        exact ⟨c, [], rfl, h1, h2⟩
      · obtain ⟨r0, r1, f', r', r2, r3, r4⟩ := r
        exact ⟨f', r' ++ [c], by rw [r2]; simp, r3, r4⟩
    · exact .inr ⟨.inl (by rw [ns_lt h1 h2, if_neg h]), .inl fun z => h z.2⟩
  | ot _ a1 a2 a3 a4 a5 a7 a8 =>
    refine .inr ⟨.inl (ns_ot a1 a2 a3 a4 a5 a7 a8), .inl fun z => ?_⟩
    unfold gq at z
    rw [if_neg a1, if_neg a2, if_neg a3, if_neg (by simp [a4, a5]), if_neg a7] at z
    exact a8 z.1
theorem fw_lw : ∀ (s : List Nat) {q : Q} {p : List Nat} {dep : Int}, J q p dep → FW q dep p.length s = LW p dep s
  | [], q, p, dep, j => by
    obtain ⟨r, d0, dp, ds⟩ := j
    have f := facts r
    unfold FW LW
    have e : (dep = 0 ∧ fin q) ↔ (p ≠ [] ∧ lastOf p ∉ [40, 32, 45] ∧ dep = 0) := by
      rw [f.lm, ne_eq, f.emp]
      cases q <;> simp [fin, st3]
    by_cases h : dep = 0 ∧ fin q
    · rw [if_pos h, if_pos (e.mp h)]
    · rw [if_neg h, if_neg fun z => h (e.mpr z)]
  | c :: s, q, p, dep, j => by
    have st := step j c
    unfold FW LW
    rcases st with ⟨q', e1, e2, e3, e4, j'⟩ | ⟨h1, h2⟩
    · have hl : ¬ (¬ good p dep c ∨ (dep = 0 ∧ 0 < p.length ∧ lastOf p ∈ [41, 32])) := fun z => z.elim (fun y => y e3) e4
      rw [if_neg hl]
      simp only [e1]
      rw [if_neg e2]
      have ih := fw_lw s j'
      rw [List.length_append] at ih
      exact ih
    · have hl : (¬ good p dep c ∨ (dep = 0 ∧ 0 < p.length ∧ lastOf p ∈ [41, 32])) := h2
      rw [if_pos hl]
      rcases h1 with e | ⟨q', e, b⟩
      · simp only [e]
      · simp only [e]
        rw [if_pos b]
theorem j0 : J .start [] 0 := ⟨rfl, by decide, by simp, fun _ => rfl⟩
end MP.k75

set_option exponentiation.threshold 100000
namespace MP.k75
open PySem
open PySem.Spec
open PyProof.Rows
open L2
open MP
open NumText TL

/-! ### texts -/
mutual
def txt : D → List Nat
  | .tup l => 40 :: (joinL [32] (txts l) ++ [41])
  | .str s => if s = [] then [46] else s
  | .int z => txtI z
  | _ => []
def txts : List D → List (List Nat)
  | [] => []
  | d :: r => txt d :: txts r
end
theorem txts_map : ∀ l : List D, txts l = l.map txt
  | [] => rfl
  | d :: r => by rw [txts, txts_map r]; rfl
def joinS (l : List D) : List Nat := joinL [32] (txts l)
def sepj (l : List D) : List Nat := if l = [] then [] else 32 :: joinS l
def fl (l : List D) : List Nat := (l.map fun d => txt d ++ [32]).flatten
theorem joinS_nil : joinS [] = [] := rfl
theorem joinS_cons (a : D) (l : List D) : joinS (a :: l) = txt a ++ sepj l := by
  cases l with
  | nil => show txt a = txt a ++ []; simp
  | cons b l => rfl
theorem sepj_nil : sepj [] = [] := rfl
theorem sepj_cons (a : D) (l : List D) : sepj (a :: l) = 32 :: joinS (a :: l) := by unfold sepj; rw [if_neg (by simp)]
theorem txt_tup (l : List D) : txt (.tup l) = 40 :: (joinS l ++ [41]) := by rw [txt]; rfl
theorem joinS_snoc (v : D) : ∀ l : List D, joinS (l ++ [v]) = fl l ++ txt v
  | [] => by rw [List.nil_append, joinS_cons, sepj_nil]; simp [fl]
  | [a] => by
    show joinS [a, v] = _
    rw [joinS_cons, sepj_cons, joinS_cons, sepj_nil]
    simp [fl]
  | a :: b :: l => by
    have ih := joinS_snoc v (b :: l)
    show joinS (a :: (b :: l ++ [v])) = _
    rw [joinS_cons]
    show txt a ++ sepj (b :: (l ++ [v])) = _
    rw [sepj_cons]
    show txt a ++ 32 :: joinS (b :: l ++ [v]) = _
    rw [ih]
    simp [fl]
theorem fl_snoc (l : List D) (v : D) : fl (l ++ [v]) = fl l ++ txt v ++ [32] := by simp [fl]
theorem joinS_sp {l : List D} (h : l ≠ []) : joinS l ++ [32] = fl l := by
  obtain ⟨x, d, rfl⟩ : ∃ x d, l = x ++ [d] := ⟨l.dropLast, l.getLast h, (List.dropLast_concat_getLast h).symm⟩
  rw [joinS_snoc, fl_snoc]
inductive Val : Nat → D → Prop where
  | str (n : Nat) (s : List Nat) : (∀ c ∈ s, 97 ≤ c ∧ c ≤ 122) → Val n (.str s)
  | int (n : Nat) (z : Int) : z.natAbs < 10 ^ 500 → Val n (.int z)
  | tup (n : Nat) (l : List D) : (∀ d ∈ l, Val n d) → Val (n + 1) (.tup l)
theorem Val.mono {n : Nat} {d : D} (h : Val n d) : ∀ {m : Nat}, n ≤ m → Val m d := by
  induction h with
  | str n s h => exact fun _ => .str _ s h
  | int n z h => exact fun _ => .int _ z h
  | tup n l h ih =>
    intro m hm
    obtain ⟨k, rfl⟩ : ∃ k, m = k + 1 := ⟨m - 1, by omega⟩
    exact .tup k l fun d hd => ih d hd (by omega)
/-- a word: no bracket, no blank -/
def Wd (u : List Nat) : Prop := u ≠ [] ∧ ∀ c ∈ u, c ≠ 32 ∧ c ≠ 41 ∧ c ≠ 40
theorem wd_int (z : Int) : Wd (txtI z) := by
  unfold txtI
  refine ⟨fun e => numL_ne z.natAbs (List.append_eq_nil_iff.mp e).2, fun c hc => ?_⟩
  rcases List.mem_append.mp hc with
                                                              h | h
  · split at h
    · rw [List.mem_singleton.mp h]; decide
    · simp at h
  · have := numL_digits z.natAbs c h; omega
theorem wd_str {s : List Nat} (h : ∀ c ∈ s, 97 ≤ c ∧ c ≤ 122) : Wd (txt (.str s)) := by
  rw [txt]
  split
  · exact ⟨by simp, fun c hc => by rw [List.mem_singleton.mp hc]; decide⟩
  · rename_i hs
    exact ⟨hs, fun c hc => by have := h c hc; omega⟩
def Dl (x : List Nat) : Prop := x = [] ∨ ∃ y, x = 32 :: y ∨ x = 41 :: y
theorem wd_cut {c : Nat} {u x y : List Nat} (h : c ≠ 32 ∧ c ≠ 41) (d : Dl x) : x ≠ c :: u ++ y := fun e => by
  rcases d with rfl | ⟨z, rfl | rfl⟩
  · cases e
  · injection e with e1 e2; exact h.1 e1.symm
  · injection e with e1 e2; exact h.2 e1.symm
theorem wd_eq : ∀ (u v x y : List Nat), (∀ c ∈ u, c ≠ 32 ∧ c ≠ 41 ∧ c ≠ 40) → (∀ c ∈ v, c ≠ 32 ∧ c ≠ 41 ∧ c ≠ 40) → Dl x → Dl y → u ++ x = v ++ y → u = v ∧ x = y
  | [], [], x, y, _, _, _, _, e => ⟨rfl, e⟩
  | [], c :: v, x, y, _, hv, dx, _, e => by
    have := hv c (by simp)
    exact absurd e (wd_cut ⟨this.1, this.2.1⟩ dx)
  | c :: u, [], x, y, hu, _, _, dy, e => by
    have := hu c (by simp)
    exact absurd e.symm (wd_cut ⟨this.1, this.2.1⟩ dy)
  | c :: u, d :: v, x, y, hu, hv, dx, dy, e => by
    injection e with e1 e2
    obtain ⟨r1, r2⟩ := wd_eq u v x y (fun c hc => hu c (List.mem_cons_of_mem _ hc)) (fun c hc => hv c (List.mem_cons_of_mem _ hc)) dx dy e2
    exact ⟨by rw [e1, r1], r2⟩
theorem txtI_inj {z w : Int} (e : txtI z = txtI w) : z = w := by
  unfold txtI at e
  have hd : ∀ n r, numL n ≠ 45 :: r := fun n r h => by
    have := numL_digits n 45 (by rw [h]; simp)
    omega
  by_cases h1 : z < 0 <;> by_cases h2 : w < 0
  · rw [if_pos h1, if_pos h2] at e
    have := numL_inj (List.append_cancel_left e)
    omega
  · rw [if_pos h1, if_neg h2] at e
    exact absurd e.symm (hd _ _)
  · rw [if_neg h1, if_pos h2] at e
    exact absurd e (hd _ _)
  · rw [if_neg h1, if_neg h2] at e
    have := numL_inj (List.append_cancel_left e)
    omega
theorem head_int (z : Int) : ∃ c r, txtI z = c :: r ∧ (c = 45 ∨ (48 ≤ c ∧ c ≤ 57)) := by
  unfold txtI
  by_cases h : z < 0
  · rw [if_pos h]; exact ⟨45, _, rfl, .inl rfl⟩
  · rw [if_neg h, List.nil_append]
    cases e : numL z.natAbs with
    | nil => exact absurd e (numL_ne _)
    | cons c r => exact ⟨c, r, rfl, .inr (numL_digits _ c (by rw [e]; simp))⟩
theorem head_str {s : List Nat} (h : ∀ c ∈ s, 97 ≤ c ∧ c ≤ 122) : ∃ c r, txt (.str s) = c :: r ∧ (c = 46 ∨ (97 ≤ c ∧ c ≤ 122)) := by
  rw [txt]
  cases s with
  | nil => exact ⟨46, [], rfl, .inl rfl⟩
  | cons c r => rw [if_neg (by simp)]; exact ⟨c, r, rfl, .inr (h c (by simp))⟩
theorem head_txt {n : Nat} {d : D} (h : Val n d) : ∃ c r, txt d = c :: r ∧ c ≠ 41 ∧ c ≠ 32 := by
  cases h with
  | str _ s h => obtain ⟨c, r, e, q⟩ := head_str h; exact ⟨c, r, e, by omega, by omega⟩
  | int _ z h => obtain ⟨c, r, e, q⟩ := head_int z; rw [txt]; exact ⟨c, r, e, by omega, by omega⟩
  | tup _ l h => exact ⟨40, _, txt_tup l, by decide, by decide⟩
def Inj (a : D) : Prop := ∀ b m, Val m b → ∀ x y, Dl x → Dl y → txt a ++ x = txt b ++ y → a = b ∧ x = y
theorem dl_sep (l : List D) (x : List Nat) : Dl (sepj l ++ 41 :: x) := by
  cases l with
  | nil => exact .inr ⟨x, .inr rfl⟩
  | cons a l => rw [sepj_cons]; exact .inr ⟨_, .inl rfl⟩
theorem list_inj : ∀ (l : List D), (∀ d ∈ l, Inj d) → (∀ d ∈ l, ∃ n, Val n d) → ∀ (m : List D) (k : Nat), (∀ d ∈ m, Val k d) → ∀ x y, joinS l ++ 41 :: x = joinS m ++ 41 :: y → l = m ∧ x = y
  | [], _, _, [], k, hm, x, y, e => by
    injection e with _ e; exact ⟨rfl, e⟩
  | [], _, _, b :: m, k, hm, x, y, e => by
    obtain ⟨c, r, e2, q1, q2⟩ := head_txt (hm b (by simp))
    rw [joinS_cons, e2] at e
    injection e with e1 _
    exact absurd e1.symm q1
  | a :: l, hi, hv, [], k, hm, x, y, e => by
    obtain ⟨n, hn⟩ := hv a (by simp)
    obtain ⟨c, r, e2, q1, q2⟩ := head_txt hn
    rw [joinS_cons, e2] at e
    injection e with e1 _
    exact absurd e1 q1
  | a :: l, hi, hv, b :: m, k, hm, x, y, e => by
    rw [joinS_cons, joinS_cons, List.append_assoc, List.append_assoc] at e
    obtain ⟨rfl, e2⟩ := hi a (by simp) b k (hm b (by simp)) _ _ (dl_sep l x) (dl_sep m y) e
    cases l with
    | nil =>
      cases m with
      | nil => injection e2 with _ e2; exact ⟨rfl, e2⟩
      | cons b m => rw [sepj_nil, sepj_cons] at e2; injection e2 with e3 _; exact absurd e3 (by decide)
    | cons a' l =>
      cases m with
      | nil => rw [sepj_nil, sepj_cons] at e2; injection e2 with e3 _; exact absurd e3 (by decide)
      | cons b m =>
        rw [sepj_cons, sepj_cons] at e2
        injection e2 with _ e2
        obtain ⟨r1, r2⟩ := list_inj (a' :: l) (fun d hd => hi d (List.mem_cons_of_mem _ hd)) (fun d hd => hv d (List.mem_cons_of_mem _ hd)) (b :: m) k (fun d hd => hm d (List.mem_cons_of_mem _ hd)) x y e2
        exact ⟨by rw [r1], r2⟩
theorem txt_inj {n : Nat} {a : D} (h : Val n a) : Inj a := by
  induction h with
  | str n s h =>
    intro b m hb x y dx dy e
    obtain ⟨c, r, e1, q⟩ := head_str h
    cases hb with
    | str _ t k =>
      obtain ⟨r1, r2⟩ := wd_eq _ _ x y (wd_str h).2 (wd_str k).2 dx dy e
      refine ⟨?_, r2⟩
      rw [txt, txt] at r1
      by_cases hs : s = [] <;> by_cases ht : t = []
      · rw [hs, ht]
      · rw [if_pos hs, if_neg ht] at r1
        have := k 46 (by rw [← r1]; simp)
        omega
      · rw [if_neg hs, if_pos ht] at r1
        have := h 46 (by rw [r1]; simp)
        omega
      · rw [if_neg hs, if_neg ht] at r1; rw [r1]
    | int _ z k =>
      obtain ⟨c', r', e2, q'⟩ := head_int z
      rw [show txt (.int z) = txtI z by rw [txt], e1, e2] at e
      injection e with e3 _
      omega
    | tup _ l k =>
      rw [txt_tup, e1] at e
      injection e with e3 _
      omega
  | int n z h =>
    intro b m hb x y dx dy e
    obtain ⟨c, r, e1, q⟩ := head_int z
    have ez : txt (.int z) = txtI z := by rw [txt]
    rw [ez] at e
    cases hb with
    | str _ t k =>
      obtain ⟨c', r', e2, q'⟩ := head_str k
      rw [e1, e2] at e
      injection e with e3 _
      omega
    | int _ w k =>
      rw [show txt (.int w) = txtI w by rw [txt]] at e
      obtain ⟨r1, r2⟩ := wd_eq _ _ x y (wd_int z).2 (wd_int w).2 dx dy e
      exact ⟨by rw [txtI_inj r1], r2⟩
    | tup _ l k =>
      rw [txt_tup, e1] at e
      injection e with e3 _
      omega
  | tup n l h ih =>
    intro b m hb x y dx dy e
    rw [txt_tup] at e
    cases hb with
    | str _ t k =>
      obtain ⟨c', r', e2, q'⟩ := head_str k
      rw [e2] at e
      injection e with e3 _
      omega
    | int _ w k =>
      obtain ⟨c', r', e2, q'⟩ := head_int w
      rw [show txt (.int w) = txtI w by rw [txt], e2] at e
      injection e with e3 _
      omega
    | tup k' l' k =>
      rw [txt_tup] at e
      injection e with _ e
      replace e : (joinS l ++ [41]) ++ x = (joinS l' ++ [41]) ++ y := e
      rw [List.append_assoc,
                                                                  List.append_assoc]
                                                                  at e
      obtain ⟨r1, r2⟩ := list_inj l ih (fun d hd => ⟨n, h d hd⟩) l' k' k x y e
      exact ⟨by rw [r1], r2⟩
theorem txt_eq {n m : Nat} {a b : D} (h : Val n a) (k : Val m b) (e : txt a = txt b) : a = b := (txt_inj h b m k [] [] (.inl rfl) (.inl rfl) (by rw [e])).1

/-! ### texts are not wrong -/
theorem fw_go {q q' : Q} {dep : Int} {at' c : Nat} {s : List Nat} (e : NS q c = some q') (h : ¬ bad dep at' q' c) : FW q dep at' (c :: s) = FW q' (dep + dgo c) (at' + 1) s := by
  rw [FW, e]
  simp only
  rw [if_neg h]
theorem nb1 {dep : Int} {at' c : Nat} {q' : Q} (h1 : q' ≠ .gap) (h2 : c ≠ 41) : ¬ bad dep at' q' c := fun ⟨_, _, z⟩ => z.elim h1 h2
theorem nb2 {dep : Int} {at' c : Nat} {q' : Q} (h : dep ≠ 0) : ¬ bad dep at' q' c := fun z => h z.1
theorem fw_digits {dep : Int} {rest : List Nat} : ∀ (u : List Nat) (at' : Nat), AllDigits u → FW .number dep at' (u ++ rest) = FW .number dep (at' + u.length) rest
  | [], at', _ => rfl
  | c :: u, at', h => by
    have hc := h c (by simp)
    have e : NS .number c = some .number := by
      by_cases h0 : c = 48
      · subst h0; rfl
      · rw [ns_dg (by omega) hc.2, if_pos (by simp)]
    have e2 : dep + dgo c = dep := by unfold dgo; rw [if_neg (by omega), if_neg (by omega)]; omega
    show FW .number dep at' (c :: (u ++ rest)) = _
    rw [fw_go e (nb1 (by simp) (by omega)), e2, fw_digits u (at' + 1) h.tail, List.length_cons]
    congr 1; omega
theorem fw_letters {dep : Int} {rest : List Nat} : ∀ (u : List Nat) (at' : Nat), (∀ c ∈ u, 97 ≤ c ∧ c ≤ 122) → FW .word dep at' (u ++ rest) = FW .word dep (at' + u.length) rest
  | [], at', _ => rfl
  | c :: u, at', h => by
    have hc := h c (by simp)
    have e : NS .word c = some .word := by rw [ns_lt hc.1 hc.2, if_pos (by simp)]
    have e2 : dep + dgo c = dep := by unfold dgo; rw [if_neg (by omega), if_neg (by omega)]; omega
    show FW .word dep at' (c :: (u ++ rest)) = _
    rw [fw_go e (nb1 (by simp) (by omega)), e2, fw_letters u (at' + 1) fun c hc => h c (List.mem_cons_of_mem _ hc), List.length_cons]
    congr 1; omega
def Fwv (d : D) : Prop := ∀ (q : Q) (dep : Int) (at' : Nat) (rest : List Nat), st3 q → 0 ≤ dep → ∃ q', fin q' ∧ FW q dep at' (txt d ++ rest) = FW q' dep (at' + (txt d).length) rest
theorem fw_list : ∀ (l : List D), (∀ d ∈ l, Fwv d) → ∀ (q : Q) (dep : Int) (at' : Nat) (rest : List Nat), (q = .opn ∨ q = .gap) → 0 < dep →
    ∃ q', (fin q' ∨ q' = .opn ∨ (l = [] ∧ q' = q)) ∧ FW q dep at' (joinS l ++ rest) = FW q' dep (at' + (joinS l).length) rest
  | [], _, q, dep, at', rest, hq, hd => ⟨q, .inr (.inr ⟨rfl, rfl⟩), rfl⟩
  | a :: l, h, q, dep, at', rest, hq, hd => by
    obtain ⟨q1, f1, e1⟩ := h a (by simp) q dep at' (sepj l ++ rest) (hq.elim (fun z => by subst z; simp [st3]) fun z => by subst z; simp [st3]) (by omega)
    rw [joinS_cons, List.append_assoc, e1]
    cases l with
    | nil =>
      refine ⟨q1, .inl f1, ?_⟩
      rw [sepj_nil, List.nil_append, List.append_nil]
    | cons b l =>
      rw [sepj_cons]
      have e2 : NS q1 32 = some .gap := by rw [ns_32, if_pos f1]
      obtain ⟨q2, f2, e3⟩ := fw_list (b :: l) (fun d hd => h d (List.mem_cons_of_mem _ hd)) .gap dep (at' + (txt a).length + 1) rest (.inr rfl) hd
      refine ⟨q2, ?_, ?_⟩
      · rcases f2 with f2 | f2 | ⟨z, _⟩
        · exact .inl f2
        · exact .inr (.inl f2)
        · cases z
      · show FW q1 dep _ (32 :: (joinS (b :: l) ++ rest)) = _
        rw [fw_go e2 (nb2 (by omega)), show dep + dgo 32 = dep from Int.add_zero _, e3]
        congr 1
        rw [List.length_append, List.length_cons]; omega
theorem fw_val {n : Nat} {d : D} (h : Val n d) : Fwv d := by
  induction h with
  | str n s h =>
    intro q dep at' rest hq hd
    rw [txt]
    cases s with
    | nil =>
      refine ⟨.endd, by simp [fin], ?_⟩
      show FW q dep at' (46 :: rest) = _
      rw [fw_go (by rw [ns_46, if_pos hq]) (nb1 (by simp) (by decide)), show dep + dgo 46 = dep from Int.add_zero _]
      rfl
    | cons c u =>
      rw [if_neg (by simp)]
      have hc := h c (by simp)
      refine ⟨.word, by simp [fin], ?_⟩
      have e2 : dep + dgo c = dep := by unfold dgo; rw [if_neg (by omega), if_neg (by omega)]; omega
      show FW q dep at' (c :: (u ++ rest)) = _
      rw [fw_go (by rw [ns_lt hc.1 hc.2, if_pos (.inl hq)]) (nb1 (by simp) (by omega)), e2, fw_letters u _ fun c hc => h c (List.mem_cons_of_mem _ hc), List.length_cons]
      congr 1; omega
  | int n z h =>
    intro q dep at' rest hq hd
    rw [txt]
    unfold txtI
    have cn := numL_canon z.natAbs
    cases e : numL z.natAbs with
    | nil => exact absurd e (numL_ne _)
    | cons c u =>
      rw [e] at cn
      have hc := cn.1 c (by simp)
      have e2 : dep + dgo c = dep := by unfold dgo; rw [if_neg (by omega), if_neg (by omega)]; omega
      by_cases hz : z < 0
      · rw [if_pos hz]
        have c48 : c ≠ 48 := fun y => by
          subst y
          have e3 : z.natAbs = 0 := by
            rcases cn.2.2 with y | y
            · have := numL_val z.natAbs
              rw [e, y] at this
              exact this.symm
            · exact absurd rfl y
          omega
        refine ⟨.number, by simp [fin], ?_⟩
        show FW q dep at' (45 :: c :: (u ++ rest)) = _
        rw [fw_go (by rw [ns_45, if_pos hq]) (nb1 (by simp) (by decide)), show dep + dgo 45 = dep from Int.add_zero _,
          fw_go (by rw [ns_dg (by omega) hc.2, if_pos (by simp)]) (nb1 (by simp) (by omega)), e2, fw_digits u _ cn.1.tail]
        congr 1
        simp; omega
      · rw [if_neg hz, List.nil_append]
        by_cases c48 : c = 48
        · have eu : u = [] := by
            rcases cn.2.2 with y | y
            · injection y
            · rw [c48] at y; exact absurd rfl y
          subst eu c48
          refine ⟨.nought, by simp [fin], ?_⟩
          show FW q dep at' (48 :: rest) = _
          rw [fw_go (by rw [ns_48, if_pos hq]) (nb1 (by simp) (by omega)), e2]
          rfl
        · refine ⟨.number, by simp [fin], ?_⟩
          show FW q dep at' (c :: (u ++ rest)) = _
          rw [fw_go (by rw [ns_dg (by omega) hc.2, if_pos (.inl hq)]) (nb1 (by simp) (by omega)), e2, fw_digits u _ cn.1.tail, List.length_cons]
          congr 1; omega
  | tup n l h ih =>
    intro q dep at' rest hq hd
    rw [txt_tup]
    obtain ⟨q1, f1, e1⟩ := fw_list l ih .opn (dep + 1) (at' + 1) (41 :: rest) (.inl rfl) (by omega)
    refine ⟨.endd, by simp [fin], ?_⟩
    show FW q dep at' (40 :: (joinS l ++ [41] ++ rest)) = _
    rw [fw_go (by rw [ns_40, if_pos hq]) (nb1 (by simp) (by decide)), List.append_assoc]
    show FW .opn (dep + 1) (at' + 1) (joinS l ++ 41 :: rest) = _
    rw [e1]
    have e2 : NS q1 41 = some .endd := by
      rw [ns_41, if_pos]
      rcases f1 with f1 | f1 | ⟨_, f1⟩
      · exact .inl f1
      · exact .inr f1
      · exact .inr f1
    rw [fw_go e2 (nb2 (by omega)), show dep + 1 + dgo 41 = dep by show dep + 1 + -1 = dep; omega]
    congr 1
    simp; omega
theorem fw_none {n : Nat} {d : D} (h : Val n d) : FW .start 0 0 (txt d) = none := by
  obtain ⟨q', f, e⟩ := fw_val h .start 0 0 [] (by simp [st3]) (by decide)
  rw [List.append_nil] at e
  rw [e, FW, if_pos ⟨rfl, f⟩]

/-! ### bounds -/
def Stay (N : Int) (a : Int) : List Nat → Prop
  | [] => a ≤ N
  | c :: s => a ≤ N ∧ Stay N (a + dgo c) s
def depS : List Nat → Int
  | [] => 0
  | c :: s => dgo c + depS s
theorem depS_app (s t : List Nat) : depS (s ++ t) = depS s + depS t := by
  induction s with
  | nil => show depS t = 0 + depS t; omega
  | cons c s ih => show dgo c + depS (s ++ t) = dgo c + depS s + depS t; rw [ih]; omega
theorem stay_app {N : Int} : ∀ {s t : List Nat} {a : Int}, Stay N a (s ++ t) ↔ Stay N a s ∧ Stay N (a + depS s) t
  | [], t, a => by
    show Stay N a t ↔ a ≤ N ∧ Stay N (a + 0) t
    rw [Int.add_zero]
    refine ⟨fun h => ⟨?_, h⟩, And.right⟩
    cases t with
    | nil => exact h
    | cons => exact h.1
  | c :: s, t, a => by
    show a ≤ N ∧ Stay N (a + dgo c) (s ++ t) ↔ (a ≤ N ∧ Stay N (a + dgo c) s) ∧ Stay N (a + (dgo c + depS s)) t
    rw [stay_app, ← Int.add_assoc, and_assoc]
theorem stay_mono {N M : Int} : ∀ {s : List Nat} {a b : Int}, Stay N a s → b + N ≤ a + M → Stay M b s
  | [], a, b, h, k => by have h : a ≤ N := h; show b ≤ M; omega
  | c :: s, a, b, h, k => ⟨by have := h.1; omega, stay_mono h.2 (by omega)⟩
theorem stay_here {N a : Int} {s : List Nat} (h : Stay N a s) : a ≤ N := by
  cases s with
  | nil => exact h
  | cons => exact h.1
theorem stay_end {N : Int} : ∀ {s : List Nat} {a : Int}, Stay N a s → a + depS s ≤ N
  | [], a, h => by have h : a ≤ N := h; show a + 0 ≤ N; omega
  | c :: s, a, h => by have := stay_end h.2; show a + (dgo c + depS s) ≤ N; omega
theorem stay_flat {N : Int} : ∀ {u : List Nat} {a : Int}, (∀ c ∈ u, c ≠ 32 ∧ c ≠ 41 ∧ c ≠ 40) → a ≤ N → depS u = 0 ∧ Stay N a u
  | [], a, _, k => ⟨rfl, k⟩
  | c :: u, a, h, k => by
    have hc := h c (by simp)
    have e : dgo c = 0 := by unfold dgo; rw [if_neg hc.2.2, if_neg hc.2.1]; rfl
    obtain ⟨r1, r2⟩ := stay_flat (u := u) (a := a) (fun c hc => h c (List.mem_cons_of_mem _ hc)) k
    exact ⟨by show dgo c + depS u = 0; omega, k, by rw [e, Int.add_zero]; exact r2⟩
def Dep (d : D) (n : Nat) : Prop := depS (txt d) = 0 ∧ ∀ a N : Int, a + n ≤ N → Stay N a (txt d)
theorem dep_list {n : Nat} : ∀ (l : List D), (∀ d ∈ l, Dep d n) → depS (joinS l) = 0 ∧ ∀ a N : Int, a + n ≤ N → Stay N a (joinS l)
  | [], _ => ⟨rfl, fun a N h => by show a ≤ N; omega⟩
  | a :: l, h => by
    obtain ⟨h1, h2⟩ := h a (by simp)
    obtain ⟨i1, i2⟩ := dep_list l fun d hd => h d (List.mem_cons_of_mem _ hd)
    rw [joinS_cons]
    cases l with
    | nil => rw [sepj_nil, List.append_nil]; exact ⟨h1, h2⟩
    | cons b l =>
      rw [sepj_cons]
      refine ⟨by rw [depS_app, h1]; show 0 + (0 + depS _) = 0; rw [i1]; rfl, fun x N hx => stay_app.mpr ⟨h2 x N hx, ?_⟩⟩
      rw [h1, Int.add_zero]
      exact ⟨by omega, by rw [show x + dgo 32 = x from Int.add_zero _]; exact i2 x N hx⟩
theorem dep_val {n : Nat} {d : D} (h : Val n d) : Dep d n := by
  induction h with
  | str n s h => exact ⟨(stay_flat (N := 0) (a := 0) (wd_str h).2 (by decide)).1, fun a N hx => (stay_flat (wd_str h).2 (by omega)).2⟩
  | int n z h =>
    unfold Dep
    rw [txt]
    exact ⟨(stay_flat (N := 0) (a := 0) (wd_int z).2 (by decide)).1, fun a N hx => (stay_flat (wd_int z).2 (by omega)).2⟩
  | tup n l h ih =>
    obtain ⟨i1, i2⟩ := dep_list l ih
    unfold Dep
    rw [txt_tup]
    refine ⟨?_, fun a N hx => ⟨by omega, stay_app.mpr ⟨i2 (a + 1) N (by omega), ?_⟩⟩⟩
    · show 1 + depS (joinS l ++ [41]) = 0
      rw [depS_app, i1]; rfl
    · rw [i1]
      exact ⟨by show a + 1 + 0 ≤ N; omega, by show a + 1 + 0 + -1 ≤ N; omega⟩
/-- runs of figures -/
def Runs (k : Nat) (r : Nat) : List Nat → Prop
  | [] => r ≤ k
  | c :: s => r ≤ k ∧ Runs k (if c ∈ digs then r + 1 else 0) s
theorem runs_here {k r : Nat} {s : List Nat} (h : Runs k r s) : r ≤ k := by
  cases s with
  | nil => exact h
  | cons => exact h.1
theorem runs_more {k m : Nat} : ∀ {s : List Nat} {r r' : Nat}, Runs k r s → r' ≤ r + m → Runs (k + m) r' s
  | [], r, r', h, q => by have h : r ≤ k := h; show r' ≤ k + m; omega
  | c :: s, r, r', h, q => ⟨by have := h.1; omega, runs_more h.2 (by split <;> omega)⟩
theorem runs_split {k : Nat} : ∀ {s t : List Nat} {r : Nat}, Runs k r (s ++ t) → Runs k r s ∧ ∃ r1, Runs k r1 t
  | [], t, r, h => ⟨runs_here h, r, h⟩
  | c :: s, t, r, h => by
    obtain ⟨a, b⟩ := runs_split (s := s) (t := t) h.2
    exact ⟨⟨h.1, a⟩, b⟩
theorem runs_join {k K : Nat} (hk : k ≤ K) : ∀ {s t : List Nat} {r : Nat}, Runs k r s → (∀ r', r' ≤ k → Runs K r' t) → Runs K r (s ++ t)
  | [], t, r, h, q => q r h
  | c :: s, t, r, h, q => ⟨by have := h.1; omega, runs_join hk h.2 q⟩
theorem runs_word {k : Nat} {t : List Nat} (q : ∀ r, r ≤ k → Runs k r t) : ∀ {u : List Nat} {r : Nat}, u.length + r ≤ k → Runs k r (u ++ t)
  | [], r, h => q r (by simpa using h)
  | c :: u, r, h => by
    rw [List.length_cons] at h
    exact ⟨by omega, runs_word q (by split <;> omega)⟩
theorem runs_sep {k c : Nat} {t : List Nat} (hc : c ∉ digs) (q : Runs k 0 t) : ∀ r, r ≤ k → Runs k r (c :: t) := fun r h => ⟨h, by rw [if_neg hc]; exact q⟩
/-- the law's values -/
inductive LV : Nat → D → Prop where
  | str (n : Nat) (s : List Nat) : (∀ c ∈ s, 97 ≤ c ∧ c ≤ 122) → s.length ≤ 3 → LV n (.str s)
  | int (n : Nat) (z : Int) : z.natAbs < 10 ^ 22 → LV n (.int z)
  | tup (n : Nat) (l : List D) : (∀ d ∈ l, LV n d) → l.length ≤ 3 → LV (n + 1) (.tup l)
theorem LV.val {n : Nat} {d : D} (h : LV n d) : Val n d := by
  induction h with
  | str n s h _ => exact .str n s h
  | int n z h => exact .int n z (Nat.lt_of_lt_of_le h (Nat.pow_le_pow_right (by decide) (by decide)))
  | tup n l h _ ih => exact .tup n l ih
theorem int_len {z : Int} (h : z.natAbs < 10 ^ 22) : (txtI z).length ≤ 23 := by
  unfold txtI
  rw [List.length_append]
  have := numL_len (k := 22) (by decide) h
  split <;> simp <;> omega
def lim : Nat → Nat
  | 0 => 23
  | n + 1 => 3 * lim n + 4
theorem lim_le (n : Nat) : 23 ≤ lim n := by
  induction n with
  | zero => exact Nat.le_refl _
  | succ n ih => show 23 ≤ 3 * lim n + 4; omega
theorem join_len {b : Nat} : ∀ (l : List D), (∀ d ∈ l, (txt d).length ≤ b) → (joinS l).length ≤ l.length * b + (l.length - 1)
  | [], _ => by simp [joinS_nil]
  | a :: l, h => by
    have ha := h a (by simp)
    have ih := join_len l fun d hd => h d (List.mem_cons_of_mem _ hd)
    rw [joinS_cons, List.length_append]
    cases l with
    | nil => rw [sepj_nil]; simp; omega
    | cons c l =>
      rw [sepj_cons, List.length_cons]
      simp only [List.length_cons] at ih ⊢
      rw [Nat.add_mul (l.length + 1) 1 b]
      omega
theorem LV.len {n : Nat} {d : D} (h : LV n d) : (txt d).length ≤ lim n := by
  induction h with
  | str n s h hl =>
    have := lim_le n
    rw [txt]
    split
    · simp; omega
    · omega
  | int n z h => rw [txt]; exact Nat.le_trans (int_len h) (lim_le n)
  | tup n l h hl ih =>
    have := join_len l ih
    rw [txt_tup]
    show (40 :: (joinS l ++ [41])).length ≤ 3 * lim n + 4
    have h3 : l.length * lim n ≤ 3 * lim n := Nat.mul_le_mul_right _ hl
    simp only [List.length_cons, List.length_append, List.length_nil]
    omega
theorem nd_sep : (32 : Nat) ∉ digs ∧ (41 : Nat) ∉ digs ∧ (40 : Nat) ∉ digs := by decide
def Rn (d : D) : Prop := ∀ rest, (∀ r, r ≤ 23 → Runs 23 r rest) → Runs 23 0 (txt d ++ rest)
theorem runs_list : ∀ (l : List D), (∀ d ∈ l, Rn d) → ∀ rest, Runs 23 0 rest → Runs 23 0 (joinS l ++ 41 :: rest)
  | [], _, rest, q => runs_sep nd_sep.2.1 q 0 (by decide)
  | a :: l, h, rest, q => by
    rw [joinS_cons, List.append_assoc]
    refine h a (by simp) _ ?_
    cases l with
    | nil => exact runs_sep nd_sep.2.1 q
    | cons b l =>
      rw [sepj_cons]
      exact runs_sep nd_sep.1 (runs_list (b :: l) (fun d hd => h d (List.mem_cons_of_mem _ hd)) rest q)
theorem LV.runs {n : Nat} {d : D} (h : LV n d) : Rn d := by
  induction h with
  | str n s h hl =>
    intro rest q
    rw [txt]
    split
    · exact runs_word q (by decide)
    · exact runs_word q (by omega)
  | int n z h =>
    intro rest q
    rw [txt]
    exact runs_word q (by have := int_len h; omega)
  | tup n l h hl ih =>
    intro rest q
    rw [txt_tup]
    show Runs 23 0 (40 :: (joinS l ++ [41] ++ rest))
    rw [List.append_assoc]
    exact runs_sep nd_sep.2.2 (runs_list l ih rest (q 0 (by decide))) 0 (by decide)
theorem runs_nil {k : Nat} : ∀ r, r ≤ k → Runs k r [] := fun r h => h
/-- what is asked of a text that is read -/
structure Tx (s : List Nat) : Prop where
  cod : ∀ c ∈ s, c < 128
  len : s.length ≤ 3000
  stay : Stay 6 0 s
  runs : Runs 60 0 s
def Ascii (s : List Nat) : Prop := ∀ c ∈ s, c < 128
theorem ascii_list : ∀ (l : List D), (∀ d ∈ l, Ascii (txt d)) → Ascii (joinS l)
  | [], _ => fun c hc => by simp [joinS_nil] at hc
  | a :: l, h => by
    rw [joinS_cons]
    intro c hc
    rcases List.mem_append.mp hc with
                                                                hc | hc
    · exact h a (by simp) c hc
    · cases l with
      | nil => simp [sepj_nil] at hc
      | cons b l =>
        rw [sepj_cons] at hc
        rcases List.mem_cons.mp hc with
                                                                    rfl | hc
        · decide
        · exact ascii_list (b :: l) (fun d hd => h d (List.mem_cons_of_mem _ hd)) c hc
theorem ascii_val {n : Nat} {d : D} (h : Val n d) : Ascii (txt d) := by
  induction h with
  | str n s h =>
    rw [txt]
    intro c hc
    split at hc
    · rw [List.mem_singleton.mp hc]; decide
    · have := h c hc; omega
  | int n z h =>
    rw [txt]
    intro c hc
    unfold txtI at hc
    rcases List.mem_append.mp hc with
                                                                hc | hc
    · split at hc
      · rw [List.mem_singleton.mp hc]; decide
      · simp at hc
    · have := numL_digits _ c hc; omega
  | tup n l h ih =>
    rw [txt_tup]
    intro c hc
    rcases List.mem_cons.mp hc with
                                                                rfl | hc
    · decide
    · rcases List.mem_append.mp hc with hc | hc
      · exact ascii_list l ih c hc
      · rw [List.mem_singleton.mp hc]; decide
theorem tx_text {d : D} (h : LV 4 d) : Ascii (txt d) ∧ (txt d).length ≤ 2023 ∧ Stay 4 0 (txt d) ∧ Runs 23 0 (txt d) :=
  ⟨ascii_val h.val, h.len, (dep_val h.val).2 0 4 (by decide), by have := h.runs [] runs_nil; rwa [List.append_nil] at this⟩
theorem tx_of {s : List Nat} (h : Ascii s ∧ s.length ≤ 2023 ∧ Stay 4 0 s ∧ Runs 23 0 s) : Tx s := by
  obtain ⟨h1, h2, h3, h4⟩ := h
  exact ⟨h1, by omega, stay_mono h3 (by decide), (runs_more (m := 37) h4 (by decide) : Runs (23 + 37) 0 s)⟩
/-- a sign put in, taken out, exchanged; a beginning -/
theorem dgo_le (c : Nat) : dgo c ≤ 1 ∧ -1 ≤ dgo c := by unfold dgo; split <;> split <;> omega
theorem tx_bent {x m y u : List Nat} (h : Ascii (x ++ m ++ y) ∧ (x ++ m ++ y).length ≤ 2023 ∧ Stay 4 0 (x ++ m ++ y) ∧ Runs 23 0 (x ++ m ++ y)) (hm : m.length ≤ 1) (hu : u.length ≤ 1) (ha : Ascii u) : Tx (x ++ u ++ y) := by
  obtain ⟨h1, h2, h3, h4⟩ := h
  rw [List.append_assoc] at h3 h4
  obtain ⟨s1, s2⟩ := stay_app.mp h3
  obtain ⟨s3, s4⟩ := stay_app.mp s2
  obtain ⟨r1, r0, r2⟩ := runs_split h4
  obtain ⟨r3, r4, r5⟩ := runs_split r2
  have dl : ∀ l : List Nat, l.length ≤ 1 → depS l ≤ 1 ∧ -1 ≤ depS l := fun l hl => by
    match l, hl with
    | [], _ => exact ⟨by decide, by decide⟩
    | [c], _ => have := dgo_le c; exact ⟨by show dgo c + 0 ≤ 1; omega, by show -1 ≤ dgo c + 0; omega⟩
    | _ :: _ :: _, z => simp at z
  have dm := dl m hm
  have du := dl u hu
  refine ⟨fun c hc => ?_, ?_, ?_, ?_⟩
  · rcases List.mem_append.mp hc with hc | hc
    · rcases List.mem_append.mp hc with hc | hc
      · exact h1 c (by simp [hc])
      · exact ha c hc
    · exact h1 c (by simp [hc])
  · simp only [List.length_append] at h2 ⊢; omega
  · rw [List.append_assoc]
    have e1 := stay_end s1
    refine stay_app.mpr ⟨stay_mono s1 (by decide), stay_app.mpr ⟨?_, stay_mono s4 (by omega)⟩⟩
    match u, hu with
    | [], _ => show _ ≤ (6 : Int); omega
    | [c], _ => have := dgo_le c; exact ⟨by omega, by show _ ≤ (6 : Int); omega⟩
    | _ :: _ :: _, z => simp at z
  · rw [List.append_assoc]
    refine runs_join (k := 23) (by decide) r1 fun r' hr => ?_
    have key : ∀ r, r ≤ 24 → Runs 60 r y := fun r hr => (runs_more (m := 37) r5 (by omega) : Runs (23 + 37) r y)
    match u, hu with
    | [], _ => exact key r' (by omega)
    | [c], _ => exact ⟨by omega, key _ (by split <;> omega)⟩
    | _ :: _ :: _, z => simp at z
end MP.k75

set_option exponentiation.threshold 100000
namespace MP.k75
open PySem
open PySem.Spec
open PyProof.Rows
open L2
open MP
open NumText TL
local macro_rules | `(tactic| walk_at "mp1") => `(tactic| first
  | with_reducible refine w_seq ?_ | with_reducible refine w_nil ?_ | ((with_reducible apply w_var); · exact rfl) | ((with_reducible apply w_own); · exact rfl) | with_reducible refine w_lit ?_ | with_reducible refine w_gl ?_
  | with_reducible refine w_tup ?_ | with_reducible refine w_lst ?_ | with_reducible refine w_bin ?_ | with_reducible refine w_neg ?_ | with_reducible refine w_cmp ?_ | with_reducible refine w_and1 ?_ | with_reducible refine w_and ?_
  | with_reducible refine w_no ?_ | with_reducible refine w_tru ?_ | with_reducible refine w_ite ?_ | with_reducible refine w_idx ?_ | with_reducible refine w_slc ?_ | with_reducible refine w_o0 ?_ | with_reducible refine w_o1 ?_ | with_reducible refine w_call ?_
  | with_reducible refine w_pr ?_ | with_reducible refine w_isi ?_ | with_reducible refine w_es0 ?_ | with_reducible refine w_es1 ?_ | with_reducible refine w_if0 ?_ | with_reducible refine w_if1 ?_
  | with_reducible refine w_of ?_ | with_reducible refine w_rg1 ?_ | with_reducible refine w_rg2 ?_ | with_reducible refine w_set ?_ | with_reducible refine w_seto ?_ | with_reducible refine w_asg ?_ | with_reducible refine w_par2 ?_ | with_reducible refine w_par3 ?_
  | with_reducible refine w_app ?_ | with_reducible refine w_exp ?_ | with_reducible refine w_ret ?_ | ((with_reducible apply w_reto); · exact rfl) | with_reducible refine w_retn ?_ | with_reducible refine w_brk ?_ | with_reducible refine w_cnt ?_
  | with_reducible refine w_pass ?_ | ((with_reducible apply w_frz); · exact rfl) | with_reducible refine w_ifs ?_
  | with_reducible refine ob_add ?_ | with_reducible refine ob_sub ?_ | with_reducible refine ob_eqi ?_ | with_reducible refine ob_nei ?_ | with_reducible refine ob_lti ?_ | with_reducible refine ob_lei ?_ | with_reducible refine ob_gti ?_ | with_reducible refine ob_gei ?_
  | with_reducible refine ob_isb ?_ | with_reducible refine ob_nisb ?_ | with_reducible refine ob_lent ?_ | with_reducible refine ob_lenl ?_ | with_reducible refine ob_gcd ?_ | with_reducible refine ob_int ?_ | with_reducible refine ob_tupl ?_
  | with_reducible refine ob_lstt ?_ | with_reducible refine ob_lstl ?_ | with_reducible refine ob_trub ?_
  | ((with_reducible apply wlt); · exact of_decide_eq_true rfl) | ((with_reducible apply wlt2); · exact of_decide_eq_true rfl) | ((with_reducible apply wlt3); · exact of_decide_eq_true rfl) | ((with_reducible apply wmost); · exact of_decide_eq_true rfl)
  | ((with_reducible apply wlst); · exact rfl) | ((with_reducible apply wint); · exact rfl)
  | ((with_reducible apply wb); · exact rfl)
  | ((with_reducible apply ob_rfl); · exact rfl)
  | ((with_reducible apply ifp); · exact rfl) | ((with_reducible apply ifn); · exact fun e => Bool.noConfusion e))
local macro_rules | `(tactic| walk_at "mp") => `(tactic| repeat walk_at "mp1")
local macro_rules | `(tactic| walk_at "mp1") => `(tactic| first
  | with_reducible refine w_join ?_ | with_reducible refine w_lstr ?_ | with_reducible refine w_dget ?_ | with_reducible refine w_popl ?_ | with_reducible refine w_isi2 ?_ | with_reducible refine w_new ?_ | with_reducible refine w_appr ?_
  | with_reducible refine w_setir ?_ | with_reducible refine w_enumS ?_ | with_reducible refine ob_inc ?_ | with_reducible refine ob_ninc ?_ | with_reducible refine ob_isn ?_ | with_reducible refine ob_nisn ?_ | with_reducible refine ob_eqb ?_ | with_reducible refine ob_neb ?_
  | ((with_reducible apply ob_eqc); (focus assumption); (focus exact rfl)) | ((with_reducible apply ob_nec); (focus assumption); (focus exact rfl)))
abbrev fu : Nat := 100000
theorem i_isv : Pg.get "is_value" = some f_is_value := by rfl
theorem i_piece : Pg.get "piece" = some f_piece := by rfl
theorem i_wi : Pg.get "write_integer" = some f_write_integer := by rfl
theorem i_ri : Pg.get "read_integer" = some f_read_integer := by rfl
theorem i_wv : Pg.get "write_value" = some f_write_value := by rfl
theorem i_ns : Pg.get "next_state" = some f_next_state := by rfl
theorem i_fw : Pg.get "first_wrong" = some f_first_wrong := by rfl
theorem i_rv : Pg.get "read_value" = some f_read_value := by rfl
theorem i_vo : Pg.get "value_of" = some f_value_of := by rfl
theorem i_refill : Pg.get "_law_refill" = some f__law_refill := by rfl
theorem i_draw : Pg.get "_law_draw" = some f__law_draw := by rfl
theorem i_exact : Pg.get "_law_exact" = some f__law_exact := by rfl
theorem i_val : Pg.get "_law_value" = some f__law_value := by rfl
theorem i_text : Pg.get "_law_text" = some f__law_text := by rfl
theorem i_p10 : Pg.get "_law_power_ten" = some f__law_power_ten := by rfl
theorem i_lw : Pg.get "_law_wrong_at" = some f__law_wrong_at := by rfl
theorem i_law : Pg.get "law" = some f_law := by rfl
/-- just this value, the heap as it was -/
def Is (d : D) (h : Hh) : D → Hh → Prop := fun r h' => r = d ∧ h' = h
theorem is_mk {d : D} {h : Hh} : Is d h d h := ⟨rfl, rfl⟩
theorem rgD_go {lo hi : Int} (h : lo < hi) : rgD lo hi = .int lo :: rgD (lo + 1) hi := by
  unfold rgD
  obtain ⟨k, hk⟩ : ∃ k : Nat, (hi - lo).toNat = k + 1 := ⟨(hi - lo).toNat - 1, by omega⟩
  have h2 : (hi - (lo + 1)).toNat = k := by omega
  rw [hk, h2, List.range_succ_eq_map]
  simp only [List.map_cons, List.map_map]
  congr 1
  · simp
  · refine List.map_congr_left fun i _ => ?_
    show D.int (lo + ((i + 1 : Nat) : Int)) = D.int (lo + 1 + (i : Int))
    congr 1; omega
theorem rgD_end {lo hi : Int} (h : hi ≤ lo) : rgD lo hi = [] := by
  unfold rgD
  rw [show (hi - lo).toNat = 0 by omega]; rfl
theorem lt_most {n : Nat} (h : n ≤ 100000) : n ≤ most := Nat.le_trans h (by decide)

/-! ### next_state -/
def enc : Option Q → D
  | none => .non
  | some q => .str q.code
theorem dget_end (c : Nat) : (match ([([32], [103, 97, 112]), ([41], [101, 110, 100])] : List (List Nat × List Nat)).find? (fun z => decide (z.1 = [c])) with | some z => D.str z.2 | none => .non) =
    enc (if c = 32 then some .gap else if c = 41 then some .endd else none) := by
  by_cases h1 : c = 32
  · subst h1; rfl
  · by_cases h2 : c = 41
    · subst h2; rfl
    · rw [if_neg h1, if_neg h2]
      have e1 : ¬ (32 = c) := fun z => h1 z.symm
      have e2 : ¬ (41 = c) := fun z => h2 z.symm
      simp [List.find?, e1, e2, enc]
theorem ns_w {n : Nat} {h : Hh} (q : Q) {c : Nat} (hc : c < 128) : W (run Pg fu (n + 1) "next_state" [.str q.code, .str [c]] h) (Is (enc (NS q c)) h) := by
  have hc' : c < 1114112 := by omega
  refine w_run i_ns rfl ?_
  cases q with
  | minus =>
    walk_at "mp"
    by_cases h1 : c ∈ digs
    · simp only [h1, decide_true, if_true]
      walk_at "mp"
      by_cases h2 : c = 48
      · simp only [h2, decide_true, Bool.not_true, Bool.false_eq_true, if_false]
        walk_at "mp"
        exact ⟨rfl, rfl⟩
      · simp only [h2, decide_false, Bool.not_false, if_true]
        walk_at "mp"
        exact ⟨by simp only [NS, h1, h2, enc, reduceCtorEq, or_self, if_false, if_true, ne_eq, not_false_iff, and_self], rfl⟩
    · simp only [h1, decide_false, Bool.false_eq_true, if_false, if_true]
      walk_at "mp"
      exact ⟨by simp only [NS, h1, enc, reduceCtorEq, or_self, if_false, if_true, false_and], rfl⟩
  | number =>
    walk_at "mp"
    by_cases h1 : c ∈ digs
    · simp only [h1, decide_true, if_true]
      walk_at "mp"
      exact ⟨by simp only [NS, h1, enc, reduceCtorEq, or_self, if_false, if_true, true_and, true_or], rfl⟩
    · simp only [h1, decide_false, Bool.false_eq_true, if_false, if_true]
      walk_at "mp"
      refine ⟨_, rfl, ?_⟩
      refine ⟨(dget_end c).trans ?_, rfl⟩
      simp only [NS, h1, reduceCtorEq, or_self, if_false, and_false, false_and]
  | word =>
    walk_at "mp"
    by_cases h1 : c ∈ letters
    · simp only [h1, decide_true, if_true]
      walk_at "mp"
      exact ⟨by simp only [NS, h1, enc, reduceCtorEq, or_self, if_false, if_true, true_and, true_or, or_true], rfl⟩
    · simp only [h1, decide_false, Bool.false_eq_true, if_false, if_true]
      walk_at "mp"
      refine ⟨_, rfl, ?_⟩
      refine ⟨(dget_end c).trans ?_, rfl⟩
      simp only [NS, h1, reduceCtorEq, or_self, if_false, and_false, false_and]
  | nought =>
    walk_at "mp"
    refine ⟨_, rfl, ?_⟩
    refine ⟨(dget_end c).trans ?_, rfl⟩
    simp only [NS, reduceCtorEq, or_self, if_false, and_false, false_and]
  | endd =>
    walk_at "mp"
    refine ⟨_, rfl, ?_⟩
    refine ⟨(dget_end c).trans ?_, rfl⟩
    simp only [NS, reduceCtorEq, or_self, if_false, and_false, false_and]
  | _ =>
    walk_at "mp"
    by_cases h1 : c = 40
    · simp only [h1, decide_true, if_true]
      walk_at "mp"
      exact ⟨rfl, rfl⟩
    simp only [h1, decide_false, Bool.false_eq_true, if_false, if_true]
    walk_at "mp"
    by_cases h2 : c = 41
    · simp only [h2, decide_true, if_true]
      walk_at "mp"
      exact ⟨rfl, rfl⟩
    simp only [h2, decide_false, Bool.false_eq_true, if_false]
    walk_at "mp"
    by_cases h3 : c = 45
    · simp only [h3, decide_true, if_true]
      walk_at "mp"
      exact ⟨rfl, rfl⟩
    simp only [h3, decide_false, Bool.false_eq_true, if_false]
    walk_at "mp"
    by_cases h4 : c ∈ digs
    · simp only [h4, decide_true, if_true]
      walk_at "mp"
      by_cases h5 : c = 48
      · simp only [h5, decide_true, if_true]
        walk_at "mp"
        exact ⟨rfl, rfl⟩
      · simp only [h5, decide_false, Bool.false_eq_true, if_false]
        walk_at "mp"
        exact ⟨by simp only [NS, h1, h2, h3, h4, h5, enc, reduceCtorEq, or_self, or_true, true_or, if_false, if_true], rfl⟩
    simp only [h4, decide_false, Bool.false_eq_true, if_false]
    walk_at "mp"
    by_cases h5 : c = 46
    · simp only [h5, decide_true, if_true]
      walk_at "mp"
      exact ⟨rfl, rfl⟩
    simp only [h5, decide_false, Bool.false_eq_true, if_false]
    walk_at "mp"
    by_cases h6 : c ∈ letters
    · simp only [h6, decide_true, if_true]
      walk_at "mp"
      exact ⟨by simp only [NS, h1, h2, h3, h4, h5, h6, enc, reduceCtorEq, or_self, or_true, true_or, if_false, if_true], rfl⟩
    · simp only [h6, decide_false, Bool.false_eq_true, if_false]
      walk_at "mp"
      exact ⟨by simp only [NS, h1, h2, h3, h4, h5, h6, enc, reduceCtorEq, or_self, or_true, true_or, if_false, if_true], rfl⟩

/-! ### first_wrong -/
def encN : Option Nat → D
  | none => .non
  | some k => .int (k : Nat)
def itemsE (s : List Nat) (k : Nat) : List D := (s.zipIdx k).map fun x => .tup [.int x.2, .str [x.1]]
theorem itemsE_cons (c : Nat) (s : List Nat) (k : Nat) : itemsE (c :: s) k = .tup [.int (k : Nat), .str [c]] :: itemsE s (k + 1) := by
  unfold itemsE; rw [List.zipIdx_cons]; rfl
theorem code_gap (q : Q) : decide (q.code = [103, 97, 112]) = decide (q = .gap) := by cases q <;> rfl
theorem int_b (b : Bool) : (if b = true then (1 : Int) else 0) = if b then 1 else 0 := rfl
theorem dgo_b (dep : Int) (c : Nat) : dep + (if decide (c = 40) = true then 1 else 0) - (if decide (c = 41) = true then 1 else 0) = dep + dgo c := by
  unfold dgo
  by_cases h1 : c = 40 <;> by_cases h2 : c = 41 <;> simp [h1, h2] <;> omega
theorem code_fin (q : Q) : decide (D.str q.code ∈ [D.str [110, 111, 117, 103, 104, 116], .str [110, 117, 109, 98, 101, 114], .str [119, 111, 114, 100], .str [101, 110, 100]]) = decide (fin q) := by
  cases q <;> decide
theorem cod_code (q : Q) : Cod q.code := by cases q <;> (unfold Cod; decide)
theorem fw_w {n : Nat} {h : Hh} {s : List Nat} (hs : Ascii s) (hl : s.length ≤ 100000) : W (run Pg fu (n + 2) "first_wrong" [.str s] h) (Is (encN (FW .start 0 0 s)) h) := by
  refine w_run i_fw rfl ?_
  walk_at "mp"
  refine w_for ?_
  walk_at "mp"
  refine ⟨s, rfl, ?_⟩
  refine ⟨fun items env hh => hh = h ∧ ∃ q dep k rest x y, items = itemsE rest k ∧ env = [.v (.str s), .v (.str (Q.code q)), .v (.int dep), x, y] ∧ FW q dep k rest = FW .start 0 0 s ∧ Ascii rest ∧ k + rest.length = s.length, ⟨rfl, .start, 0, 0, s, .un, .un, rfl, rfl, rfl, hs, by omega⟩, ?_, ?_⟩
  · rintro d r env hh ⟨rfl, q, dep, k, rest, x, y, e1, rfl, e2, e3, e4⟩
    cases rest with
    | nil => cases e1
    | cons c rest =>
      rw [itemsE_cons] at e1
      injection e1 with e5 e6
      subst e5 e6
      have hc : c < 128 := e3 c (by simp)
      have hc' : c < 1114112 := by omega
      refine .of rfl ?_
      walk_at "mp"
      refine (ns_w (n := n) q hc).imp ?_
      rintro _ _ ⟨rfl, rfl⟩
      walk_at "mp"
      rw [FW] at e2
      cases eN : NS q c with
      | none =>
        rw [eN] at e2
        simp only [enc, decide_true, Bool.true_eq_false, if_false, if_true]
        walk_at "mp"
        exact ⟨by rw [← e2]; rfl, rfl⟩
      | some q' =>
        rw [eN] at e2
        simp only at e2
        simp only [enc, reduceCtorEq, decide_false, if_true]
        walk_at "mp"
        by_cases hd : dep = 0
        · simp only [hd, decide_true, if_true]
          walk_at "mp"
          by_cases hk : (0 : Int) < (k : Int)
          · simp only [hk, decide_true, if_true]
            walk_at "mp"
            refine ob_eqs (cod_code _) (by unfold Cod; decide) ?_
            rw [code_gap]
            by_cases hg : q' = .gap
            · simp only [hg, decide_true, Bool.true_eq_false, if_false, if_true]
              walk_at "mp"
              rw [if_pos ⟨hd, by omega, .inl hg⟩] at e2
              exact ⟨by rw [← e2]; rfl, rfl⟩
            · simp only [hg, decide_false, if_true]
              walk_at "mp"
              by_cases h41 : c = 41
              · simp only [h41, decide_true, if_true]
                walk_at "mp"
                rw [if_pos ⟨hd, by omega, .inr h41⟩] at e2
                exact ⟨by rw [← e2]; rfl, rfl⟩
              · simp only [h41, decide_false, Bool.false_eq_true, if_false]
                walk_at "mp"
                rw [if_neg (fun z => z.2.2.elim hg h41)] at e2
                exact ⟨rfl, q', dep + dgo c, k + 1, rest, _, _, rfl, by subst hd; rw [← dgo_b]; rfl, e2, fun z hz => e3 z (List.mem_cons_of_mem _ hz), by rw [List.length_cons] at e4; omega⟩
          · simp only [hk, decide_false, Bool.false_eq_true, if_false]
            walk_at "mp"
            rw [if_neg (fun z => hk (by have := z.2.1; omega))] at e2
            exact ⟨rfl, q', dep + dgo c, k + 1, rest, _, _, rfl, by subst hd; rw [← dgo_b]; rfl, e2, fun z hz => e3 z (List.mem_cons_of_mem _ hz), by rw [List.length_cons] at e4; omega⟩
        · simp only [hd, decide_false, Bool.false_eq_true, if_false]
          walk_at "mp"
          rw [if_neg (fun z => hd z.1)] at e2
          exact ⟨rfl, q', dep + dgo c, k + 1, rest, _, _, rfl, by rw [← dgo_b]; rfl, e2, fun z hz => e3 z (List.mem_cons_of_mem _ hz), by rw [List.length_cons] at e4; omega⟩
  · rintro env hh ⟨rfl, q, dep, k, rest, x, y, e1, rfl, e2, e3, e4⟩
    cases rest with
    | cons c rest => rw [itemsE_cons] at e1; cases e1
    | nil =>
      walk_at "mp"
      rw [FW] at e2
      by_cases hd : dep = 0
      · simp only [hd, decide_true, if_true]
        walk_at "mp"
        trace_state
        rw [code_fin]
        by_cases hf : fin q
        · simp only [hf, decide_true, if_true]
          walk_at "mp"
          rw [if_pos ⟨hd, hf⟩] at e2
          exact ⟨by rw [← e2]; rfl, rfl⟩
        · simp only [hf, decide_false, Bool.false_eq_true, if_false]
          walk_at "mp"
          refine ob_lens (lt_most hl) ?_
          rw [if_neg fun z => hf z.2] at e2
          simp only [List.length_nil, Nat.add_zero] at e4
          exact ⟨by rw [← e2, e4]; rfl, rfl⟩
      · simp only [hd, decide_false, Bool.false_eq_true, if_false]
        walk_at "mp"
        refine ob_lens (lt_most hl) ?_
        rw [if_neg fun z => hd z.1] at e2
        simp only [List.length_nil, Nat.add_zero] at e4
        exact ⟨by rw [← e2, e4]; rfl, rfl⟩
end MP.k75

set_option exponentiation.threshold 100000
namespace MP.k75
open PySem
open PySem.Spec
open PyProof.Rows
open L2
open MP
open NumText TL
local macro_rules | `(tactic| walk_at "mp1") => `(tactic| first
  | with_reducible refine w_seq ?_ | with_reducible refine w_nil ?_ | ((with_reducible apply w_var); · exact rfl) | ((with_reducible apply w_own); · exact rfl) | with_reducible refine w_lit ?_ | with_reducible refine w_gl ?_
  | with_reducible refine w_tup ?_ | with_reducible refine w_lst ?_ | with_reducible refine w_bin ?_ | with_reducible refine w_neg ?_ | with_reducible refine w_cmp ?_ | with_reducible refine w_and1 ?_ | with_reducible refine w_and ?_
  | with_reducible refine w_no ?_ | with_reducible refine w_tru ?_ | with_reducible refine w_ite ?_ | with_reducible refine w_idx ?_ | with_reducible refine w_slc ?_ | with_reducible refine w_o0 ?_ | with_reducible refine w_o1 ?_ | with_reducible refine w_call ?_
  | with_reducible refine w_pr ?_ | with_reducible refine w_isi ?_ | with_reducible refine w_es0 ?_ | with_reducible refine w_es1 ?_ | with_reducible refine w_if0 ?_ | with_reducible refine w_if1 ?_
  | with_reducible refine w_of ?_ | with_reducible refine w_rg1 ?_ | with_reducible refine w_rg2 ?_ | with_reducible refine w_set ?_ | with_reducible refine w_seto ?_ | with_reducible refine w_asg ?_ | with_reducible refine w_par2 ?_ | with_reducible refine w_par3 ?_
  | with_reducible refine w_app ?_ | with_reducible refine w_exp ?_ | with_reducible refine w_ret ?_ | ((with_reducible apply w_reto); · exact rfl) | with_reducible refine w_retn ?_ | with_reducible refine w_brk ?_ | with_reducible refine w_cnt ?_
  | with_reducible refine w_pass ?_ | ((with_reducible apply w_frz); · exact rfl) | with_reducible refine w_ifs ?_
  | with_reducible refine ob_add ?_ | with_reducible refine ob_sub ?_ | with_reducible refine ob_eqi ?_ | with_reducible refine ob_nei ?_ | with_reducible refine ob_lti ?_ | with_reducible refine ob_lei ?_ | with_reducible refine ob_gti ?_ | with_reducible refine ob_gei ?_
  | with_reducible refine ob_isb ?_ | with_reducible refine ob_nisb ?_ | with_reducible refine ob_lent ?_ | with_reducible refine ob_lenl ?_ | with_reducible refine ob_gcd ?_ | with_reducible refine ob_int ?_ | with_reducible refine ob_tupl ?_
  | with_reducible refine ob_lstt ?_ | with_reducible refine ob_lstl ?_ | with_reducible refine ob_trub ?_
  | ((with_reducible apply wlt); · exact of_decide_eq_true rfl) | ((with_reducible apply wlt2); · exact of_decide_eq_true rfl) | ((with_reducible apply wlt3); · exact of_decide_eq_true rfl) | ((with_reducible apply wmost); · exact of_decide_eq_true rfl)
  | ((with_reducible apply wlst); · exact rfl) | ((with_reducible apply wint); · exact rfl)
  | ((with_reducible apply wb); · exact rfl)
  | ((with_reducible apply ob_rfl); · exact rfl)
  | ((with_reducible apply ifp); · exact rfl) | ((with_reducible apply ifn); · exact fun e => Bool.noConfusion e))
local macro_rules | `(tactic| walk_at "mp") => `(tactic| repeat walk_at "mp1")
local macro_rules | `(tactic| walk_at "mp1") => `(tactic| first
  | with_reducible refine w_join ?_ | with_reducible refine w_lstr ?_ | with_reducible refine w_dget ?_ | with_reducible refine w_popl ?_ | with_reducible refine w_isi2 ?_ | with_reducible refine w_new ?_ | with_reducible refine w_appr ?_
  | with_reducible refine w_setir ?_ | with_reducible refine w_enumS ?_ | with_reducible refine ob_inc ?_ | with_reducible refine ob_ninc ?_ | with_reducible refine ob_isn ?_ | with_reducible refine ob_nisn ?_ | with_reducible refine ob_eqb ?_ | with_reducible refine ob_neb ?_
  | ((with_reducible apply ob_eqc); (focus assumption); (focus exact rfl)) | ((with_reducible apply ob_nec); (focus assumption); (focus exact rfl)))
abbrev sLast : S := .set 5 (.ite (.cmp .Gt (.var 2) (.lit (.int 0))) (.idx (.var 0) (.bin .Sub (.var 2) (.lit (.int 1)))) (.lit (.str [40])))
abbrev sWhole : S := .set 3 (.bop false (.cons (.cmp .Eq (.var 5) (.lit (.str [41]))) (.cons (.bop true (.cons (.cmp .NotEq (.var 7) (.lit (.str []))) (.cons (.cmp .NotEq (.var 7) (.lit (.str [45]))) .nil))) .nil)))
abbrev sGood : S := .ifs (.cmp .Eq (.var 6) (.lit (.str [40]))) (.cons (.set 8 (.cmp .In (.var 5) (.lit (.str [40, 32])))) .nil) (.cons (.ifs (.cmp .Eq (.var 6) (.lit (.str [41]))) (.cons (.set 8 (.bop true (.cons (.cmp .Gt (.var 1) (.lit (.int 0))) (.cons (.bop false (.cons (.var 3) (.cons (.cmp .Eq (.var 5) (.lit (.str [40]))) .nil))) .nil)))) .nil) (.cons (.ifs (.cmp .Eq (.var 6) (.lit (.str [32]))) (.cons (.set 8 (.bop true (.cons (.cmp .Gt (.var 1) (.lit (.int 0))) (.cons (.var 3) .nil)))) .nil) (.cons (.ifs (.bop false (.cons (.cmp .Eq (.var 6) (.lit (.str [46]))) (.cons (.cmp .Eq (.var 6) (.lit (.str [45]))) .nil))) (.cons (.set 8 (.cmp .In (.var 5) (.lit (.str [40, 32])))) .nil) (.cons (.ifs (.cmp .In (.var 6) (.lit (.str [48, 49, 50, 51, 52, 53, 54, 55, 56, 57]))) (.cons (.set 8 (.bop false (.cons (.cmp .In (.var 5) (.lit (.str [40, 32]))) (.cons (.bop true (.cons (.cmp .Eq (.var 7) (.lit (.str [45]))) (.cons (.cmp .NotEq (.var 6) (.lit (.str [48]))) .nil))) (.cons (.cmp .In (.slc (.lstr (.var 7) (.lit (.str [45]))) .no (.so (.lit (.int 1)))) (.tup (.cons (.lit (.str [49])) (.cons (.lit (.str [50])) (.cons (.lit (.str [51])) (.cons (.lit (.str [52])) (.cons (.lit (.str [53])) (.cons (.lit (.str [54])) (.cons (.lit (.str [55])) (.cons (.lit (.str [56])) (.cons (.lit (.str [57])) .nil))))))))))) .nil))))) .nil) (.cons (.set 8 (.bop true (.cons (.cmp .In (.var 6) (.lit (.str [97, 98, 99, 100, 101, 102, 103, 104, 105, 106, 107, 108, 109, 110, 111, 112, 113, 114, 115, 116, 117, 118, 119, 120, 121, 122]))) (.cons (.bop false (.cons (.cmp .In (.var 5) (.lit (.str [40, 32]))) (.cons (.cmp .In (.slc (.var 7) .no (.so (.lit (.int 1)))) (.pr .tuple (.cons (.lit (.str [97, 98, 99, 100, 101, 102, 103, 104, 105, 106, 107, 108, 109, 110, 111, 112, 113, 114, 115, 116, 117, 118, 119, 120, 121, 122])) .nil))) .nil))) .nil)))) .nil)) .nil)) .nil)) .nil)) .nil)
abbrev sEnd : S := .ifs (.bop false (.cons (.no (.tru (.var 8))) (.cons (.bop true (.cons (.cmp .Eq (.var 1) (.lit (.int 0))) (.cons (.cmp .Gt (.var 2) (.lit (.int 0))) (.cons (.cmp .In (.var 5) (.lit (.str [41, 32]))) .nil)))) .nil))) (.cons (.ret (.var 2)) .nil) .nil
abbrev sDep : S := .set 1 (.bin .Sub (.bin .Add (.var 1) (.pr .int (.cons (.cmp .Eq (.var 6) (.lit (.str [40]))) .nil))) (.pr .int (.cons (.cmp .Eq (.var 6) (.lit (.str [41]))) .nil)))
/-! ### the law's own first wrong place -/
theorem wordOf_len (p : List Nat) : (wordOf p).length ≤ p.length := by
  induction p using snoc_ind with
  | h0 => exact Nat.le_refl _
  | h1 p c ih =>
    rw [wordOf_snoc]; unfold stepW
    split
    · simp
    · simp; omega
theorem wordOf_sub (p : List Nat) : ∀ c ∈ wordOf p, c ∈ p := by
  induction p using snoc_ind with
  | h0 => exact fun c hc => by simp [wordOf] at hc
  | h1 p c ih =>
    rw [wordOf_snoc]; unfold stepW
    split
    · simp
    · intro d hd
      rcases List.mem_append.mp hd with hd | hd
      · exact List.mem_append_left _ (ih d hd)
      · exact List.mem_append_right _ hd
theorem lastOf_lt {p : List Nat} (h : Ascii p) : lastOf p < 128 := by
  unfold lastOf
  cases e : p.getLast? with
  | none => decide
  | some c => exact h c (List.mem_of_getLast? e)
theorem ascii_cod {s : List Nat} (h : Ascii s) : Cod s := fun c hc => Nat.lt_trans (h c hc) (by decide)
theorem cod_word {p : List Nat} (h : Ascii p) : Cod (wordOf p) := fun c hc => ascii_cod h c (wordOf_sub p c hc)
@[reducible] def wEnv (s p : List Nat) (dep : Int) (x3 x4 x5 x8 : Slot) (c : Nat) : Env := [.v (.str s), .v (.int dep), .v (.int (p.length : Nat)), x3, x4, x5, .v (.str [c]), .v (.str (wordOf p)), x8]
section
variable {n : Nat} {h : Hh} {s p : List Nat} {dep : Int} {x3 x4 x5 x8 : Slot} {c : Nat} {QF : Fl → Hh → Prop}
theorem last_w {rest : List Nat} (hs : Ascii s) (hl : s.length ≤ 100000) (e : s = p ++ rest) (q : QF (.nx (wEnv s p dep x3 x4 (.v (.str [lastOf p])) x8 c)) h) :
    W (evS ⟨run Pg fu n, fu⟩ sLast (wEnv s p dep x3 x4 x5 x8 c) h) QF := by
  walk_at "mp"
  by_cases hp : (0 : Int) < (p.length : Nat)
  · simp only [hp, decide_true, if_true]
    walk_at "mp"
    refine ob_ixs (y := lastOf p) (lt_most hl) ?_ ?_
    · have hp' : p ≠ [] := fun z => by subst z; simp at hp
      obtain ⟨r, d, rfl⟩ : ∃ r d, p = r ++ [d] := ⟨p.dropLast, p.getLast hp', (List.dropLast_concat_getLast hp').symm⟩
      rw [at_nat (by omega), lastOf_snoc, e]
      rw [List.length_append, List.length_singleton, show (((r.length + 1 : Nat) : Int) - 1).toNat = r.length by omega]
      simp
    · walk_at "mp"
      exact q
  · simp only [hp, decide_false, Bool.false_eq_true, if_false]
    walk_at "mp"
    have hp' : p = [] := List.eq_nil_of_length_eq_zero (by omega)
    subst hp'
    exact q
theorem whole_w (hs : Ascii p) (q : QF (.nx (wEnv s p dep (.v (.bl (decide (whole p)))) x4 (.v (.str [lastOf p])) x8 c)) h) :
    W (evS ⟨run Pg fu n, fu⟩ sWhole (wEnv s p dep x3 x4 (.v (.str [lastOf p])) x8 c) h) QF := by
  have hla : lastOf p < 1114112 := Nat.lt_trans (lastOf_lt hs) (by decide)
  walk_at "mp"
  by_cases h1 : lastOf p = 41
  · have hw : whole p := .inl h1
    simp only [hw, decide_true] at q
    simp only [h1, decide_true, Bool.true_eq_false, if_false, if_true] at q ⊢
    walk_at "mp"
    exact q
  · simp only [h1, decide_false, if_true]
    walk_at "mp"
    refine ob_nes (cod_word hs) (by unfold Cod; simp) ?_
    walk_at "mp"
    by_cases h2 : wordOf p = []
    · have hw : ¬ whole p := fun z => z.elim h1 fun y => y.1 h2
      simp only [hw, decide_false] at q
      have e2 : decide (wordOf p = []) = true := decide_eq_true h2
      simp only [e2, Bool.not_true, Bool.false_eq_true, if_false]
      walk_at "mp"
      exact q
    · simp only [h2, decide_false, Bool.not_false, if_true]
      walk_at "mp"
      refine ob_nes (cod_word hs) (by unfold Cod; decide) ?_
      walk_at "mp"
      have e : (!decide (wordOf p = [45])) = decide (whole p) := by
        unfold whole
        simp [h1, h2]
      rw [e]
      exact q
theorem ones_mem (l : List Nat) (x : List Nat) : decide (D.str x ∈ l.map fun z => D.str [z]) = decide (x ∈ ones l) := by
  rw [decide_eq_decide, mem_ones, List.mem_map]
  exact ⟨fun ⟨z, h, e⟩ => ⟨z, h, (D.str.inj e).symm⟩, fun ⟨z, h, e⟩ => ⟨z, h, by rw [e]⟩⟩
theorem take1 (w : List Nat) : cutD w none (some 1) = w.take 1 := cut_to (by decide)
theorem good_w (hs : Ascii p) (hl : p.length ≤ 100000) (hc : c < 128) (q : ∀ b : Bool, (b = true ↔ good p dep c) → QF (.nx (wEnv s p dep (.v (.bl (decide (whole p)))) x4 (.v (.str [lastOf p])) (.v (.bl b)) c)) h) :
    W (evS ⟨run Pg fu n, fu⟩ sGood (wEnv s p dep (.v (.bl (decide (whole p)))) x4 (.v (.str [lastOf p])) x8 c) h) QF := by
  have hc' : c < 1114112 := by omega
  have hla : lastOf p < 1114112 := Nat.lt_trans (lastOf_lt hs) (by decide)
  have hwl : (wordOf p).length ≤ most := lt_most (Nat.le_trans (wordOf_len p) hl)
  walk_at "mp"
  by_cases h1 : c = 40
  · subst h1
    simp only [decide_true, if_true]
    walk_at "mp"
    refine q _ ?_
    unfold good; rw [if_pos rfl, decide_eq_true_eq]
  simp only [h1, decide_false, Bool.false_eq_true, if_false]
  walk_at "mp"
  by_cases h2 : c = 41
  · subst h2
    simp only [decide_true, if_true]
    walk_at "mp"
    have e : good p dep 41 ↔ 0 < dep ∧ (whole p ∨ lastOf p = 40) := by unfold good; rw [if_neg (by decide), if_pos rfl]
    by_cases hd : 0 < dep
    · simp only [hd, decide_true, if_true]
      walk_at "mp"
      by_cases hw : whole p
      · simp only [hw, decide_true, Bool.true_eq_false, if_false]
        walk_at "mp"
        simp only [hw, decide_true] at q
        exact q _ (iff_of_true rfl (e.mpr ⟨hd, .inl hw⟩))
      · simp only [hw, decide_false, if_true]
        walk_at "mp"
        simp only [hw, decide_false] at q
        refine q _ ?_
        rw [e, decide_eq_true_eq]
        exact ⟨fun z => ⟨hd, .inr z⟩, fun z => z.2.elim (fun y => absurd y hw) id⟩
    · simp only [hd, decide_false, Bool.false_eq_true, if_false]
      walk_at "mp"
      exact q _ (iff_of_false (by simp) fun z => hd (e.mp z).1)
  simp only [h2, decide_false, Bool.false_eq_true, if_false]
  walk_at "mp"
  by_cases h3 : c = 32
  · subst h3
    simp only [decide_true, if_true]
    walk_at "mp"
    have e : good p dep 32 ↔ 0 < dep ∧ whole p := by unfold good; rw [if_neg (by decide), if_neg (by decide), if_pos rfl]
    by_cases hd : 0 < dep
    · simp only [hd, decide_true, if_true]
      walk_at "mp"
      refine q _ ?_
      rw [e, decide_eq_true_eq]
      exact ⟨fun z => ⟨hd, z⟩, And.right⟩
    · simp only [hd, decide_false, Bool.false_eq_true, if_false]
      walk_at "mp"
      exact q _ (iff_of_false (by simp) fun z => hd (e.mp z).1)
  simp only [h3, decide_false, Bool.false_eq_true, if_false]
  walk_at "mp"
  by_cases h4 : c = 46 ∨ c = 45
  · have e : good p dep c ↔ lastOf p ∈ [40, 32] := by unfold good; rw [if_neg h1, if_neg h2, if_neg h3, if_pos h4]
    rcases h4 with h4 | h4
    · subst h4
      simp only [decide_true, Bool.true_eq_false, if_false, if_true]
      walk_at "mp"
      exact q _ (by rw [e, decide_eq_true_eq])
    · subst h4
      have h5 : ¬ (45 : Nat) = 46 := by decide
      simp only [h5, decide_false, if_true]
      walk_at "mp"
      exact q _ (by rw [e, decide_eq_true_eq])
  have h4a : ¬ c = 46 := fun z => h4 (.inl z)
  have h4b : ¬ c = 45 := fun z => h4 (.inr z)
  simp only [h4a, decide_false, if_true]
  walk_at "mp"
  simp only [h4b, decide_false, Bool.false_eq_true, if_false]
  walk_at "mp"
  by_cases h6 : c ∈ digs
  · simp only [h6, decide_true, if_true]
    walk_at "mp"
    have e : good p dep c ↔ (lastOf p ∈ [40, 32] ∨ (wordOf p = [45] ∧ c ≠ 48) ∨ ((wordOf p).dropWhile fun z => decide (z ∈ [45])).take 1 ∈ ones [49, 50, 51, 52, 53, 54, 55, 56, 57]) := by
      unfold good; rw [if_neg h1, if_neg h2, if_neg h3, if_neg h4, if_pos h6]
    by_cases g1 : lastOf p ∈ [40, 32]
    · simp only [g1, decide_true, Bool.true_eq_false, if_false]
      walk_at "mp"
      exact q _ (iff_of_true rfl (e.mpr (.inl g1)))
    simp only [g1, decide_false, if_true]
    walk_at "mp"
    refine ob_eqs (cod_word hs) (by unfold Cod; decide) ?_
    walk_at "mp"
    have dl : ((wordOf p).dropWhile fun z => decide (z ∈ [45])).length ≤ most := Nat.le_trans (List.dropWhile_sublist _).length_le hwl
    by_cases g2 : wordOf p = [45]
    · have e2 : decide (wordOf p = [45]) = true := decide_eq_true g2
      simp only [e2, if_true]
      walk_at "mp"
      by_cases g3 : c = 48
      · subst g3
        simp only [decide_true, Bool.not_true, if_true]
        walk_at "mp"
        refine ⟨_, _, rfl, rfl, hwl, ?_⟩
        walk_at "mp"
        refine ob_cuts dl ?_
        walk_at "mp"
        rw [take1]
        refine q _ ?_
        rw [e]
        show decide (D.str _ ∈ List.map (fun z => D.str [z]) [49, 50, 51, 52, 53, 54, 55, 56, 57]) = true ↔ _
        rw [ones_mem, decide_eq_true_eq]
        exact ⟨fun z => .inr (.inr z), fun z => z.elim (fun y => absurd y g1) fun z => z.elim (fun y => absurd rfl y.2) id⟩
      · simp only [g3, decide_false, Bool.not_false, Bool.true_eq_false, if_false]
        walk_at "mp"
        exact q _ (iff_of_true rfl (e.mpr (.inr (.inl ⟨g2, g3⟩))))
    · have e2 : decide (wordOf p = [45]) = false := decide_eq_false g2
      simp only [e2, Bool.false_eq_true, if_false, if_true]
      walk_at "mp"
      refine ⟨_, _, rfl, rfl, hwl, ?_⟩
      walk_at "mp"
      refine ob_cuts dl ?_
      walk_at "mp"
      rw [take1]
      refine q _ ?_
      rw [e]
      show decide (D.str _ ∈ List.map (fun z => D.str [z]) [49, 50, 51, 52, 53, 54, 55, 56, 57]) = true ↔ _
      rw [ones_mem, decide_eq_true_eq]
      exact ⟨fun z => .inr (.inr z), fun z => z.elim (fun y => absurd y g1) fun z => z.elim (fun y => absurd y.1 g2) id⟩
  simp only [h6, decide_false, Bool.false_eq_true, if_false]
  walk_at "mp"
  have e : good p dep c ↔ (c ∈ letters ∧ (lastOf p ∈ [40, 32] ∨ (wordOf p).take 1 ∈ ones letters)) := by
    unfold good; rw [if_neg h1, if_neg h2, if_neg h3, if_neg h4, if_neg h6]
  by_cases g0 : c ∈ letters
  · simp only [g0, decide_true, if_true]
    walk_at "mp"
    by_cases g1 : lastOf p ∈ [40, 32]
    · simp only [g1, decide_true, Bool.true_eq_false, if_false]
      walk_at "mp"
      exact q _ (iff_of_true rfl (e.mpr ⟨g0, .inl g1⟩))
    simp only [g1, decide_false, if_true]
    walk_at "mp"
    refine ob_cuts hwl ?_
    walk_at "mp"
    rw [take1]
    refine q _ ?_
    rw [e, ones_mem, decide_eq_true_eq]
    exact ⟨fun z => ⟨g0, .inr z⟩, fun z => z.2.elim (fun y => absurd y g1) id⟩
  · simp only [g0, decide_false, Bool.false_eq_true, if_false]
    walk_at "mp"
    exact q _ (iff_of_false (by simp) fun z => g0 (e.mp z).1)
end
theorem lw_w {n : Nat} {h : Hh} {s : List Nat} (hs : Ascii s) (hl : s.length ≤ 100000) : W (run Pg fu (n + 1) "_law_wrong_at" [.str s] h) (Is (encN (LW [] 0 s)) h) := by
  refine w_run i_lw rfl ?_
  walk_at "mp"
  refine w_for ?_
  walk_at "mp"
  refine ob_lens (lt_most hl) ?_
  refine ⟨_, rfl, by unfold rgOk; rw [decide_eq_true_eq]; omega, ?_⟩
  refine ⟨fun items env hh => hh = h ∧ ∃ p rest dep x2 x3 x4 x5 x6 x7 x8, s = p ++ rest ∧ items = rgD (p.length : Nat) (s.length : Nat) ∧ env = [.v (.str s), .v (.int dep), x2, x3, x4, x5, x6, x7, x8] ∧ LW p dep rest = LW [] 0 s,
    ⟨rfl, [], s, 0, .un, .un, .un, .un, .un, .un, .un, rfl, rfl, rfl, rfl⟩, ?_, ?_⟩
  · rintro d r env hh ⟨rfl, p, rest, dep, x2, x3, x4, x5, x6, x7, x8, e0, e1, rfl, e2⟩
    cases rest with
    | nil =>
      rw [rgD_end (by rw [e0]; simp)] at e1
      cases e1
    | cons c rest =>
      have hlt : p.length < s.length := by rw [e0]; simp
      rw [rgD_go (by omega)] at e1
      injection e1 with e5 e6
      subst e5 e6
      have hp : Ascii p := fun z hz => hs z (by rw [e0]; simp [hz])
      have hc : c < 128 := hs c (by rw [e0]; simp)
      have hc' : c < 1114112 := by omega
      refine .of rfl ?_
      walk_at "mp"
      refine ob_ixs (y := c) (lt_most hl) (by rw [at_nat (by omega), e0]; simp) ?_
      walk_at "mp"
      refine w_for ?_
      walk_at "mp"
      refine ob_cuts (lt_most hl) ?_
      have ep : cutD s none (some ((p.length : Nat) : Int)) = p := by rw [cut_to (by omega), e0]; simp
      rw [ep]
      refine .of rfl ?_
      refine ⟨fun items env hh' => hh' = hh ∧ ∃ p1 p2 y4, p = p1 ++ p2 ∧ items = (p2.map fun z => D.str [z]) ∧ env = [.v (.str s), .v (.int dep), .v (.int (p.length : Nat)), x3, y4, x5, .v (.str [c]), .v (.str (wordOf p1)), x8], ⟨rfl, [], p, x4, rfl, rfl, rfl⟩, ?_, ?_⟩
      · rintro d r env hh' ⟨rfl, p1, p2, y4, f0, f1, rfl⟩
        cases p2 with
        | nil => cases f1
        | cons z p2 =>
          rw [List.map_cons] at f1
          injection f1 with f5 f6
          subst f5 f6
          refine .of rfl ?_
          walk_at "mp"
          have hw1 : (wordOf p1).length ≤ p1.length := wordOf_len p1
          have hp1 : p1.length < p.length := by rw [f0]; simp
          by_cases hz : z ∈ [40, 32, 41]
          · have e : decide (z ∈ [40, 32, 41]) = true := decide_eq_true hz
            simp only [e, if_true]
            walk_at "mp"
            exact ⟨rfl, p1 ++ [z], p2, _, by rw [f0]; simp, rfl, by rw [word_none hz]; rfl⟩
          · have e : decide (z ∈ [40, 32, 41]) = false := decide_eq_false hz
            simp only [e, Bool.false_eq_true, if_false]
            walk_at "mp"
            refine ob_strs (lt_most (by simp; omega)) ?_
            walk_at "mp"
            exact ⟨rfl, p1 ++ [z], p2, _, by rw [f0]; simp, rfl, by rw [word_more hz]; rfl⟩
      · rintro env hh' ⟨rfl, p1, p2, y4, f0, f1, rfl⟩
        cases p2 with
        | cons z p2 => cases f1
        | nil =>
          rw [List.append_nil] at f0
          subst f0
          refine w_seq (last_w hs hl e0 ?_)
          refine w_seq (whole_w hp ?_)
          refine w_seq (good_w hp (by omega) hc fun b hb => ?_)
          have hla : lastOf p < 1114112 := Nat.lt_trans (lastOf_lt hp) (by decide)
          rw [LW] at e2
          walk_at "mp"
          cases b with
          | false =>
            have ng : ¬ good p dep c := fun z => by have := hb.mpr z; cases this
            rw [if_pos (.inl ng)] at e2
            simp only [Bool.not_false, Bool.true_eq_false, if_false]
            walk_at "mp"
            exact ⟨by rw [← e2]; rfl, rfl⟩
          | true =>
            have yg : good p dep c := hb.mp rfl
            simp only [Bool.not_true, if_true]
            walk_at "mp"
            by_cases hd : dep = 0
            · subst hd
              simp only [decide_true, if_true]
              walk_at "mp"
              by_cases hk : (0 : Int) < (p.length : Nat)
              · simp only [hk, decide_true, if_true]
                walk_at "mp"
                by_cases hx : lastOf p ∈ [41, 32]
                · simp only [hx, decide_true, if_true]
                  walk_at "mp"
                  rw [if_pos (.inr ⟨rfl, by omega, hx⟩)] at e2
                  exact ⟨by rw [← e2]; rfl, rfl⟩
                · simp only [hx, decide_false, Bool.false_eq_true, if_false]
                  walk_at "mp"
                  rw [if_neg (fun z => z.elim (fun y => y yg) fun y => hx y.2.2)] at e2
                  exact ⟨rfl, p ++ [c], rest, 0 + dgo c, _, _, _, _, _, _, _, by rw [e0]; simp, by simp, by rw [← dgo_b]; rfl, e2⟩
              · simp only [hk, decide_false, Bool.false_eq_true, if_false]
                walk_at "mp"
                rw [if_neg (fun z => z.elim (fun y => y yg) fun y => hk (by have := y.2.1; omega))] at e2
                exact ⟨rfl, p ++ [c], rest, 0 + dgo c, _, _, _, _, _, _, _, by rw [e0]; simp, by simp, by rw [← dgo_b]; rfl, e2⟩
            · simp only [hd, decide_false, Bool.false_eq_true, if_false]
              walk_at "mp"
              rw [if_neg (fun z => z.elim (fun y => y yg) fun y => hd y.1)] at e2
              exact ⟨rfl, p ++ [c], rest, dep + dgo c, _, _, _, _, _, _, _, by rw [e0]; simp, by simp, by rw [← dgo_b]; rfl, e2⟩
  · rintro env hh ⟨rfl, p, rest, dep, x2, x3, x4, x5, x6, x7, x8, e0, e1, rfl, e2⟩
    cases rest with
    | cons c rest =>
      have hlt : p.length < s.length := by rw [e0]; simp
      rw [rgD_go (by omega)] at e1
      cases e1
    | nil =>
      rw [List.append_nil] at e0
      subst e0
      rw [LW] at e2
      walk_at "mp"
      refine ob_nes (ascii_cod hs) (by unfold Cod; simp) ?_
      walk_at "mp"
      by_cases hn : s = []
      · have e : decide (s = []) = true := decide_eq_true hn
        simp only [e, Bool.not_true, Bool.false_eq_true, if_false]
        walk_at "mp"
        refine ob_lens (lt_most hl) ?_
        rw [if_neg fun z => z.1 hn] at e2
        exact ⟨by rw [← e2]; rfl, rfl⟩
      · have e : decide (s = []) = false := decide_eq_false hn
        simp only [e, Bool.not_false, if_true]
        walk_at "mp"
        refine ob_lens (lt_most hl) ?_
        walk_at "mp"
        refine ob_ixs (y := lastOf s) (lt_most hl) ?_ ?_
        · obtain ⟨r, d, rfl⟩ : ∃ r d, s = r ++ [d] := ⟨s.dropLast, s.getLast hn, (List.dropLast_concat_getLast hn).symm⟩
          rw [at_nat (by simp), lastOf_snoc]
          rw [List.length_append, List.length_singleton, show (((r.length + 1 : Nat) : Int) - 1).toNat = r.length by omega]
          try simp
        walk_at "mp"
        by_cases hx : lastOf s ∈ [40, 32, 45]
        · have e : decide (lastOf s ∈ [40, 32, 45]) = true := decide_eq_true hx
          simp only [e, Bool.not_true, Bool.false_eq_true, if_false]
          walk_at "mp"
          refine ob_lens (lt_most hl) ?_
          rw [if_neg fun z => z.2.1 hx] at e2
          exact ⟨by rw [← e2]; rfl, rfl⟩
        · have e : decide (lastOf s ∈ [40, 32, 45]) = false := decide_eq_false hx
          simp only [e, Bool.not_false, if_true]
          walk_at "mp"
          by_cases hd : dep = 0
          · simp only [hd, decide_true, if_true]
            walk_at "mp"
            rw [if_pos ⟨hn, hx, hd⟩] at e2
            exact ⟨by rw [← e2]; rfl, rfl⟩
          · simp only [hd, decide_false, Bool.false_eq_true, if_false]
            walk_at "mp"
            refine ob_lens (lt_most hl) ?_
            rw [if_neg fun z => hd z.2.2] at e2
            exact ⟨by rw [← e2]; rfl, rfl⟩
end MP.k75

set_option exponentiation.threshold 100000
namespace MP.k75
open PySem
open PySem.Spec
open PyProof.Rows
open L2
open MP
open NumText TL
local macro_rules | `(tactic| walk_at "mp1") => `(tactic| first
  | with_reducible refine w_seq ?_ | with_reducible refine w_nil ?_ | ((with_reducible apply w_var); · exact rfl) | ((with_reducible apply w_own); · exact rfl) | with_reducible refine w_lit ?_ | with_reducible refine w_gl ?_
  | with_reducible refine w_tup ?_ | with_reducible refine w_lst ?_ | with_reducible refine w_bin ?_ | with_reducible refine w_neg ?_ | with_reducible refine w_cmp ?_ | with_reducible refine w_and1 ?_ | with_reducible refine w_and ?_
  | with_reducible refine w_no ?_ | with_reducible refine w_tru ?_ | with_reducible refine w_ite ?_ | with_reducible refine w_idx ?_ | with_reducible refine w_slc ?_ | with_reducible refine w_o0 ?_ | with_reducible refine w_o1 ?_ | with_reducible refine w_call ?_
  | with_reducible refine w_pr ?_ | with_reducible refine w_isi ?_ | with_reducible refine w_es0 ?_ | with_reducible refine w_es1 ?_ | with_reducible refine w_if0 ?_ | with_reducible refine w_if1 ?_
  | with_reducible refine w_of ?_ | with_reducible refine w_rg1 ?_ | with_reducible refine w_rg2 ?_ | with_reducible refine w_set ?_ | with_reducible refine w_seto ?_ | with_reducible refine w_asg ?_ | with_reducible refine w_par2 ?_ | with_reducible refine w_par3 ?_
  | with_reducible refine w_app ?_ | with_reducible refine w_exp ?_ | with_reducible refine w_ret ?_ | ((with_reducible apply w_reto); · exact rfl) | with_reducible refine w_retn ?_ | with_reducible refine w_brk ?_ | with_reducible refine w_cnt ?_
  | with_reducible refine w_pass ?_ | ((with_reducible apply w_frz); · exact rfl) | with_reducible refine w_ifs ?_
  | with_reducible refine ob_add ?_ | with_reducible refine ob_sub ?_ | with_reducible refine ob_eqi ?_ | with_reducible refine ob_nei ?_ | with_reducible refine ob_lti ?_ | with_reducible refine ob_lei ?_ | with_reducible refine ob_gti ?_ | with_reducible refine ob_gei ?_
  | with_reducible refine ob_isb ?_ | with_reducible refine ob_nisb ?_ | with_reducible refine ob_lent ?_ | with_reducible refine ob_lenl ?_ | with_reducible refine ob_gcd ?_ | with_reducible refine ob_int ?_ | with_reducible refine ob_tupl ?_
  | with_reducible refine ob_lstt ?_ | with_reducible refine ob_lstl ?_ | with_reducible refine ob_trub ?_
  | ((with_reducible apply wlt); · exact of_decide_eq_true rfl) | ((with_reducible apply wlt2); · exact of_decide_eq_true rfl) | ((with_reducible apply wlt3); · exact of_decide_eq_true rfl) | ((with_reducible apply wmost); · exact of_decide_eq_true rfl)
  | ((with_reducible apply wlst); · exact rfl) | ((with_reducible apply wint); · exact rfl)
  | ((with_reducible apply wb); · exact rfl)
  | ((with_reducible apply ob_rfl); · exact rfl)
  | ((with_reducible apply ifp); · exact rfl) | ((with_reducible apply ifn); · exact fun e => Bool.noConfusion e))
local macro_rules | `(tactic| walk_at "mp") => `(tactic| repeat walk_at "mp1")
local macro_rules | `(tactic| walk_at "mp1") => `(tactic| first
  | with_reducible refine w_join ?_ | with_reducible refine w_lstr ?_ | with_reducible refine w_dget ?_ | with_reducible refine w_popl ?_ | with_reducible refine w_isi2 ?_ | with_reducible refine w_new ?_ | with_reducible refine w_appr ?_
  | with_reducible refine w_setir ?_ | with_reducible refine w_enumS ?_ | with_reducible refine ob_inc ?_ | with_reducible refine ob_ninc ?_ | with_reducible refine ob_isn ?_ | with_reducible refine ob_nisn ?_ | with_reducible refine ob_eqb ?_ | with_reducible refine ob_neb ?_
  | ((with_reducible apply ob_eqc); (focus assumption); (focus exact rfl)) | ((with_reducible apply ob_nec); (focus assumption); (focus exact rfl)))
/-! ### numbers -/
def PW : Nat := 10 ^ 500
theorem pw_eq : PW = 10 ^ 500 := rfl
theorem pw_pos : 0 < PW := Nat.pow_pos (by decide)
theorem pow_bd (k : Nat) : 10 ^ (3 * k) ≤ 2 ^ (10 * k) := by
  rw [Nat.pow_mul, Nat.pow_mul]
  exact Nat.pow_le_pow_left (by decide) k
theorem pw_bd : PW ≤ 2 ^ 1670 := by
  rw [pw_eq]
  exact Nat.le_trans (Nat.pow_le_pow_right (by decide) (by decide : 500 ≤ 3 * 167)) (pow_bd 167)
theorem bd_nat {p n : Nat} (h : n < 2 ^ p) : Bd p (n : Int) := by unfold Bd; rw [Int.natAbs_natCast]; exact h
theorem bd_dv {f : List Nat} (hf : AllDigits f) (hl : f.length ≤ 3000) : Bd 10000 ((digitsVal f : Nat) : Int) :=
  bd_nat (Nat.lt_of_lt_of_le (dv_lt f hf) (Nat.le_trans (Nat.pow_le_pow_right (by decide) hl) (pow_bd 1000)))
theorem log_lt {n p : Nat} (h : n < 2 ^ p) (hp : 0 < p) : n.log2 < p := by
  by_cases h0 : n = 0
  · subst h0; rw [Nat.log2_zero]; exact hp
  · exact (Nat.log2_lt
                                                              h0).mpr h
section
variable {h : Hh} {P : D → Prop} {i j : Int}
theorem ob_muls {x : List Nat} (h0 : 0 ≤ j ∧ j ≤ 1000 ∧ x.length ≤ 1000) (q : P (.str (List.replicate j.toNat x).flatten)) : Ob (binD h .Mult (.str x) (.int j)) P := .of (by rw [binD, if_pos h0]) q
theorem ob_mulB {p r : Nat} (b : Bd p i) (d : Bd r j) (hpr : p + r < bitsMost) (q : P (.int (i * j))) : Ob (binD h .Mult (.int i) (.int j)) P := .of (by rw [binD, if_pos (b.mulOk d hpr)]) q
end
theorem rep_flat (k : Nat) (c : Nat) : (List.replicate k [c]).flatten = List.replicate k c := by
  induction k with
  | zero => rfl
  | succ k ih => rw [List.replicate_succ, List.flatten_cons, ih]; rfl
theorem ad_pow (k : Nat) : AllDigits (49 :: List.replicate k 48) := fun c hc => by
  rcases List.mem_cons.mp hc with
                                                              rfl | hc
  · decide
  · rw [(List.mem_replicate.mp hc).2]; decide
/-- int('1' + '0' * k) -/
theorem ones_w {c : Cfg} {s : Env} {h : Hh} {e : E} {k : Nat} {QD : D → Hh → Prop} (hk : k ≤ 500) (he : ∀ Q : D → Hh → Prop, Q (.int (k : Nat)) h → W (evE c e s h) Q) (q : QD (.int ((10 ^ k : Nat) : Int)) h) :
    W (evE c (.pr .int (.cons (.bin .Add (.lit (.str [49])) (.bin .Mult (.lit (.str [48])) e)) .nil)) s h) QD := by
  refine w_pr (w_es1 (w_bin (w_lit (w_bin (w_lit (he _ (ob_muls ⟨by omega, by omega, by decide⟩ ?_)))))))
  rw [rep_flat, Int.toNat_natCast]
  refine ob_strs (lt_most (by simp; omega)) ?_
  refine w_es0 (ob_ints (ad_pow k) (by simp) (by simp; omega) ?_)
  show QD (.int ((digitsVal (49 :: List.replicate k 48) : Nat) : Int)) h
  rw [dv_pow]; exact q
theorem piece_w {n : Nat} {h : Hh} : W (run Pg fu (n + 1) "piece" [] h) (Is (.int (PW : Nat)) h) := by
  refine w_run i_piece rfl ?_
  exact w_seq (w_ret (ones_w (k := 500) (Nat.le_refl _) (fun Q q => w_lit q) ⟨rfl, rfl⟩))
theorem fmod_nat (a b : Nat) : Int.fmod (a : Int) (b : Int) = ((a % b : Nat) : Int) := by
  rw [Int.fmod_eq_emod, if_pos (.inl (Int.natCast_nonneg _)), Int.add_zero]; rfl
theorem fdiv_nat (a b : Nat) : Int.fdiv (a : Int) (b : Int) = ((a / b : Nat) : Int) := by
  rw [Int.fdiv_eq_ediv_of_nonneg _ (Int.natCast_nonneg _)]; rfl
theorem num_cut (left : Nat) (h : PW ≤ left) : numL left = numL (left / PW) ++ (numL (PW + left % PW)).tail := by
  have e := Nat.div_add_mod left PW
  have r := Nat.mod_lt left pw_pos
  have hp : 0 < left / PW := Nat.div_pos h pw_pos
  have := numL_split 500 (left / PW) (left % PW) hp r
  rw [show left / PW * 10 ^ 500 + left % PW = left by rw [Nat.mul_comm]; exact e] at this
  exact this
theorem wi_w {n : Nat} {h : Hh} {z : Int} (hz : (numL z.natAbs).length ≤ 3000) : W (run Pg fu (n + 2) "write_integer" [.int z] h) (Is (.str (txtI z)) h) := by
  refine w_run i_wi rfl ?_
  walk_at "mp"
  have ea : (if z < 0 then -z else z) = ((z.natAbs : Nat) : Int) := by split <;> omega
  rw [ea]
  refine w_while (fun m env hh => hh = h ∧ ∃ (left : Nat) (told : List Nat), m = (numL left).length ∧ env = [.v (.int z), .v (.int (left : Nat)), .v (.str told)] ∧ numL z.natAbs = numL left ++ told) (numL z.natAbs).length
    (by show _ < 100000; omega) ⟨rfl, z.natAbs, [], rfl, rfl, by simp⟩ ?_
  rintro m env hh ⟨rfl, left, told, rfl, rfl, e⟩
  have lt : told.length ≤ 3000 := by rw [e, List.length_append] at hz; omega
  walk_at "mp"
  refine (piece_w (n := n)).imp ?_
  rintro _ _ ⟨rfl, rfl⟩
  walk_at "mp"
  by_cases hp : PW ≤ left
  · have hp' : ((PW : Nat) : Int) ≤ (left : Nat) := by omega
    simp only [hp', decide_true, if_true]
    walk_at "mp"
    refine (piece_w (n := n)).imp ?_
    rintro _ _ ⟨rfl, rfl⟩
    walk_at "mp"
    refine (piece_w (n := n)).imp ?_
    rintro _ _ ⟨rfl, rfl⟩
    walk_at "mp"
    have ne : ((PW : Nat) : Int) ≠ 0 := by have := pw_pos; omega
    rw [fmod_nat]
    have r := Nat.mod_lt left pw_pos
    have hs : PW + left % PW < 2 ^ 1671 := by
      have := pw_bd
      have e2 : 2 ^ 1671 = 2 ^ 1670 * 2 := Nat.pow_succ ..
      rw [e2]
      generalize 2 ^ 1670 = x at *
      omega
    have hs2 : PW + left % PW < 10 ^ 501 := by
      have e2 : 10 ^ 501 = PW * 10 := Nat.pow_succ ..
      rw [e2]
      generalize PW = x at *
      omega
    rw [show ((PW : Nat) : Int) + ((left % PW : Nat) : Int) = ((PW + left % PW : Nat) : Int) by omega]
    refine ob_stri (by rw [Int.natAbs_natCast]; exact Nat.lt_of_lt_of_le (log_lt hs (by decide)) (by decide)) ?_
    rw [cs_nat]
    walk_at "mp"
    have hl := numL_len (k := 501) (by decide) hs2
    refine ob_cuts (lt_most (by omega)) ?_
    rw [cut_from (by decide), show (1 : Int).toNat = 1 from rfl, List.drop_one]
    walk_at "mp"
    refine ob_strs (lt_most (by rw [List.length_tail]; omega)) ?_
    walk_at "mp"
    refine (piece_w (n := n)).imp ?_
    rintro _ _ ⟨rfl, rfl⟩
    refine ob_div ne (bd_nat (Nat.lt_of_le_of_lt pw_bd (Nat.pow_lt_pow_right (by decide) (by decide)))) ?_
    rw [fdiv_nat]
    walk_at "mp"
    have ec := num_cut left hp
    refine ⟨(numL (left / PW)).length, ?_, rfl, left / PW, _, rfl, rfl, by rw [e, ec, List.append_assoc]⟩
    have e3 := congrArg List.length ec
    rw [List.length_append] at e3
    rcases Nat.eq_zero_or_pos (numL (PW + left % PW)).tail.length with z0 | z0
    · exfalso
      rw [List.eq_nil_of_length_eq_zero z0, List.append_nil] at ec
      have := numL_inj ec
      have h1 : left / PW < left := Nat.div_lt_self (by have := pw_pos; omega) (by rw [pw_eq]; exact Nat.one_lt_pow (by decide) (by decide))
      omega
    · omega
  · have hp' : ¬ ((PW : Nat) : Int) ≤ (left : Nat) := by omega
    simp only [hp', decide_false, Bool.false_eq_true, if_false]
    have hb : left < 2 ^ 1670 := Nat.lt_of_lt_of_le (by omega) pw_bd
    have hl : (numL left).length ≤ 3000 := by rw [e, List.length_append] at hz; omega
    walk_at "mp"
    by_cases h0 : z < 0
    · simp only [h0, decide_true, if_true]
      walk_at "mp"
      refine ob_stri (by rw [Int.natAbs_natCast]; exact Nat.lt_of_lt_of_le (log_lt hb (by decide)) (by decide)) ?_
      rw [cs_nat]
      walk_at "mp"
      refine ob_strs (lt_most (by simp; omega)) ?_
      walk_at "mp"
      refine ob_strs (lt_most (by simp; omega)) ?_
      walk_at "mp"
      exact ⟨by unfold txtI; rw [if_pos h0, e]; simp, rfl⟩
    · simp only [h0, decide_false, Bool.false_eq_true, if_false]
      walk_at "mp"
      refine ob_stri (by rw [Int.natAbs_natCast]; exact Nat.lt_of_lt_of_le (log_lt hb (by decide)) (by decide)) ?_
      rw [cs_nat]
      walk_at "mp"
      refine ob_strs (lt_most (by simp; omega)) ?_
      walk_at "mp"
      refine ob_strs (lt_most (by simp; omega)) ?_
      walk_at "mp"
      exact ⟨by unfold txtI; rw [if_neg h0, e]; simp, rfl⟩
theorem p10_w {n : Nat} {h : Hh} {k : Nat} (hk : k ≤ 2000) : W (run Pg fu (n + 1) "_law_power_ten" [.int (k : Nat)] h) (Is (.int ((10 ^ k : Nat) : Int)) h) := by
  refine w_run i_p10 rfl ?_
  walk_at "mp"
  refine w_for ?_
  walk_at "mp"
  refine ⟨by unfold rgOk; rw [decide_eq_true_eq]; omega, ?_⟩
  refine ⟨fun items env hh => hh = h ∧ ∃ (a : Nat) (x : Slot), a ≤ k ∧ items = rgD (a : Nat) (k : Nat) ∧ env = [.v (.int (k : Nat)), .v (.int ((10 ^ a : Nat) : Int)), x], ⟨rfl, 0, .un, by omega, rfl, rfl⟩, ?_, ?_⟩
  · rintro d r env hh ⟨rfl, a, x, ha, e1, rfl⟩
    rcases Nat.lt_or_ge a k with q | q
    · rw [rgD_go (by omega)] at e1
      injection e1 with e5 e6
      subst e5 e6
      refine .of rfl ?_
      walk_at "mp"
      refine ob_mulB (p := 10000) (r := 4) (bd_nat ?_) (by unfold Bd; decide) (by decide) ?_
      · exact Nat.lt_of_lt_of_le (Nat.pow_lt_pow_right (by decide) (by omega : a < 3 * 1000)) (pow_bd 1000)
      · walk_at "mp"
        exact ⟨rfl, a + 1, _, q, by simp, by rw [Nat.pow_succ]; rfl⟩
    · rw [rgD_end (by omega)] at e1
      cases e1
  · rintro env hh ⟨rfl, a, x, ha, e1, rfl⟩
    rcases Nat.lt_or_ge a k with q | q
    · rw [rgD_go (by omega)] at e1
      cases e1
    · have : a = k := by omega
      subst this
      walk_at "mp"
      exact ⟨rfl, rfl⟩
theorem cut_mid {α : Type} {xs : List α} {a b : Nat} (h : a ≤ b) : cutD xs (some (a : Nat)) (some (b : Nat)) = (xs.drop a).take (b - a) := by
  unfold cutD
  have e : HT.sIx xs.length 0 (some ((a : Nat) : Int)) = min a xs.length := HT.sIx_nat _ _ _
  have e2 : HT.sIx xs.length xs.length (some ((b : Nat) : Int)) = min b xs.length := HT.sIx_nat _ _ _
  rw [e, e2]
  rcases Nat.le_total a xs.length with q | q
  · rw [Nat.min_eq_left q]
    rcases Nat.le_total b xs.length with q2 | q2
    · rw [Nat.min_eq_left q2]
    · rw [Nat.min_eq_right q2, List.take_of_length_le (by rw [List.length_drop]; exact Nat.le_refl _), List.take_of_length_le (by rw [List.length_drop]; omega)]
  · rw [Nat.min_eq_right q, List.drop_of_length_le (Nat.le_refl _), List.drop_of_length_le q]
    simp
theorem ri_w {n : Nat} {h : Hh} {f : List Nat} (neg : Bool) (hf : AllDigits f) (hn : f ≠ []) (hl : f.length ≤ 3000) :
    W (run Pg fu (n + 1) "read_integer" [.str ((if neg then [45] else []) ++ f)] h) (Is (.int (if neg then -((digitsVal f : Nat) : Int) else (digitsVal f : Nat))) h) := by
  obtain ⟨w, hw⟩ : ∃ w, w = (if neg then [45] else []) ++ f := ⟨_, rfl⟩
  obtain ⟨c, r, ef⟩ : ∃ c r, f = c :: r := by
    cases f with
    | nil => exact absurd rfl hn
    | cons c r => exact ⟨c, r, rfl⟩
  have hc : 48 ≤ c ∧ c ≤ 57 := hf c (by rw [ef]; simp)
  have wl : w.length ≤ 3001 := by rw [hw, List.length_append]; split <;> simp <;> omega
  obtain ⟨c0, h0, hc0, hneg⟩ : ∃ c0, atI w 0 = some c0 ∧ c0 < 1114112 ∧ decide (c0 = 45) = neg := by
    rw [at_nat (by decide), hw]
    cases neg with
    | true => exact ⟨45, rfl, by decide, rfl⟩
    | false => exact ⟨c, by rw [ef]; rfl, by omega, decide_eq_false (by omega)⟩
  rw [← hw]
  refine w_run i_ri rfl ?_
  walk_at "mp"
  refine ob_ixs (lt_most (by omega)) h0 ?_
  walk_at "mp"
  rw [hneg]
  have mid : ∀ h', W (evSs ⟨run Pg fu n, fu⟩ (.cons (.asg (.tp (.cons (.nm 2) (.cons (.nm 3) .nil))) (.tup (.cons (.lit (.int 0)) (.cons (.lit (.int 0)) .nil)))) (.cons l_read_integer_0 (.cons (.ret (.ite (.cmp .Eq (.idx (.var 0) (.lit (.int 0))) (.lit (.str [45]))) (.bin .Sub (.lit (.int 0)) (.var 2)) (.var 2))) .nil)))
      [.v (.str w), .v (.str f), .un, .un, .un] h') (endF (Is (.int (if neg then -((digitsVal f : Nat) : Int) else (digitsVal f : Nat))) h')) := fun h' => by
    walk_at "mp"
    refine w_while (fun m env hh => hh = h' ∧ ∃ (a : Nat) (x : Slot), m = f.length - a ∧ env = [.v (.str w), .v (.str f), .v (.int ((digitsVal (f.take a) : Nat) : Int)), .v (.int (a : Nat)), x]) f.length
      (by show _ < 100000; omega) ⟨rfl, 0, .un, by simp, rfl⟩ ?_
    rintro m env hh ⟨rfl, a, x, rfl, rfl⟩
    walk_at "mp"
    refine ob_lens (lt_most (by omega)) ?_
    walk_at "mp"
    by_cases ha : a < f.length
    · have ha' : ((a : Nat) : Int) < (f.length : Nat) := by omega
      simp only [ha', decide_true, if_true]
      walk_at "mp"
      refine ob_cuts (lt_most (by omega)) ?_
      rw [show ((a : Nat) : Int) + 500 = ((a + 500 : Nat) : Int) by omega, cut_mid (by omega), show a + 500 - a = 500 by omega]
      obtain ⟨part, hp⟩ : ∃ part, part = (f.drop a).take 500 := ⟨_, rfl⟩
      rw [← hp]
      have pl : part.length ≤ 500 := by rw [hp, List.length_take]; omega
      have pn : part ≠ [] := fun z => by
        have := congrArg List.length (hp.symm.trans z)
        rw [List.length_take, List.length_drop] at this
        simp at this; omega
      have pd : AllDigits part := fun d hd => hf d (by rw [hp] at hd; exact List.mem_of_mem_drop (List.mem_of_mem_take hd))
      have et : f.take (a + 500) = f.take a ++ part := by rw [hp, List.take_add]
      refine wlt (of_decide_eq_true rfl) (w_seq (w_set (w_bin (w_bin ?_))))
      walk_at "mp"
      refine ob_lens (lt_most (by omega)) ?_
      refine ob_muls ⟨by omega, by omega, by decide⟩ ?_
      rw [rep_flat, Int.toNat_natCast]
      refine ob_strs (lt_most (by simp; omega)) ?_
      refine w_es0 (ob_ints (ad_pow part.length) (by simp) (by simp; omega) ?_)
      rw [show ([49] ++ List.replicate part.length 48 : List Nat) = 49 :: List.replicate part.length 48 from rfl, dv_pow]
      refine ob_mulB (p := 10000) (r := 1670) (bd_dv (fun d hd => hf d (List.mem_of_mem_take hd)) (by rw [List.length_take]; omega)) (bd_nat ?_) (by decide) ?_
      · refine Nat.lt_of_lt_of_le (Nat.pow_lt_pow_right (by decide) (by omega : part.length < 3 * 167)) (pow_bd 167)
      walk_at "mp"
      refine ob_ints pd pn (by omega) ?_
      walk_at "mp"
      refine ⟨f.length - (a + 500), by omega, rfl, a + 500, .v (.str part), rfl, ?_⟩
      rw [et, dv_app]
      show _ = [Slot.v (.str w), .v (.str f), .v (.int ((digitsVal (f.take a) * 10 ^ part.length + digitsVal part : Nat) : Int)), .v (.int ((a + 500 : Nat) : Int)), .v (.str part)]
      rfl
    · have ha' : ¬ ((a : Nat) : Int) < (f.length : Nat) := by omega
      simp only [ha', decide_false, Bool.false_eq_true, if_false]
      walk_at "mp"
      refine ob_ixs (lt_most (by omega)) h0 ?_
      walk_at "mp"
      rw [hneg, List.take_of_length_le (by omega)]
      cases neg with
      | true =>
        walk_at "mp"
        exact ⟨by rw [Int.zero_sub]; rfl, rfl⟩
      | false =>
        walk_at "mp"
        exact ⟨rfl, rfl⟩
  cases neg with
  | true =>
    walk_at "mp"
    refine ob_cuts (lt_most (by omega)) ?_
    have ew : cutD w (some 1) none = f := by rw [cut_from (by decide), hw]; rfl
    rw [ew]
    exact wlt (of_decide_eq_true rfl) (mid h)
  | false =>
    have ew : w = f := by rw [hw]; rfl
    simp only
                                                                [Bool.false_eq_true, if_false]
    refine w_var rfl (wlt (of_decide_eq_true rfl) ?_)
    have m := mid h
    rw [← ew] at m ⊢
    exact m
end MP.k75

set_option exponentiation.threshold 100000
namespace MP.k75
open PySem
open PySem.Spec
open PyProof.Rows
open L2
open MP
open NumText TL
/-! ### what is read, plainly -/
inductive CW : List Nat → D → Prop where
  | dot : CW [46] (.str [])
  | letr (w : List Nat) : w ≠ [] → (∀ c ∈ w, 97 ≤ c ∧ c ≤ 122) → CW w (.str w)
  | num (neg : Bool) (f : List Nat) : Canon f → (neg = true → f.head? ≠ some 48) → f.length ≤ 500 → CW ((if neg = true then [45] else []) ++ f) (.int (if neg = true then -((digitsVal f : Nat) : Int) else (digitsVal f : Nat)))
theorem CW.val {w : List Nat} {d : D} (h : CW w d) (n : Nat) : Val n d ∧ txt d = w := by
  cases h with
  | dot => exact ⟨.str n [] (fun c hc => by simp at hc), by rw [txt, if_pos rfl]⟩
  | letr _ hn hl => exact ⟨.str n _ hl, by rw [txt, if_neg hn]⟩
  | num neg f cf hh hl =>
    have lt : digitsVal f < 10 ^ 500 := Nat.lt_of_lt_of_le (dv_lt f cf.1) (Nat.pow_le_pow_right (by decide) hl)
    generalize 10 ^ 500 = m at lt
    cases neg with
    | false =>
      simp only [Bool.false_eq_true, if_false, List.nil_append]
      refine ⟨.int n _ ?_, ?_⟩
      · rw [Int.natAbs_natCast]; exact Nat.lt_of_lt_of_le (dv_lt f cf.1) (Nat.pow_le_pow_right (by decide) hl)
      · rw [txt, txtI, if_neg (by omega), Int.natAbs_natCast, numL_dv f cf]; rfl
    | true =>
      simp only [if_true]
      have pos := dv_pos cf.1 cf.2.1 (hh rfl)
      refine ⟨.int n _ ?_, ?_⟩
      · rw [Int.natAbs_neg, Int.natAbs_natCast]; exact Nat.lt_of_lt_of_le (dv_lt f cf.1) (Nat.pow_le_pow_right (by decide) hl)
      · rw [txt, txtI, if_pos (by omega), Int.natAbs_neg, Int.natAbs_natCast, numL_dv f cf]
def WO (q : Q) (w : List Nat) (rr : Nat) : Prop := match q with
  | .start => w = []
  | .opn => w = []
  | .gap => w = []
  | .minus => w = [45]
  | .number => ∃ (neg : Bool) (f : List Nat), w = (if neg = true then [45] else []) ++ f ∧ AllDigits f ∧ f ≠ [] ∧ f.head? ≠ some 48 ∧ f.length ≤ rr
  | .nought => w = [48]
  | .word => w ≠ [] ∧ ∀ c ∈ w, 97 ≤ c ∧ c ≤ 122
  | .endd => w = [] ∨ w = [46]
theorem wo_cw {q : Q} {w : List Nat} {rr : Nat} (h : WO q w rr) (hf : fin q) (hr : rr ≤ 60) (hw : w ≠ []) : ∃ d, CW w d := by
  rcases hf with rfl | rfl | rfl | rfl
  · have h : w = [48] := h
    subst h
    exact ⟨_, .num false [48] ⟨by intro c hc; rw [List.mem_singleton.mp hc]; decide, by simp, .inl rfl⟩ (fun z => by cases z) (by decide)⟩
  · obtain ⟨neg, f, rfl, h1, h2, h3, h4⟩ := h
    exact ⟨_, .num neg f ⟨h1, h2, .inr h3⟩ (fun _ => h3) (by omega)⟩
  · exact ⟨_, .letr w h.1 h.2⟩
  · rcases h with h | h
    · exact absurd h hw
    · subst h; exact ⟨_, .dot⟩
def opnT : List (List D) → List Nat
  | [] => []
  | r :: rest => opnT rest ++ fl r ++ [40]
def cur (q : Q) (r : List D) (w : List Nat) : List Nat := if q = .endd ∧ w = [] then joinS r else fl r ++ w
def VS : List (List D) → Prop
  | [] => True
  | r :: outer => (∀ d ∈ r, Val (6 - outer.length) d) ∧ VS outer
structure PI (q : Q) (dep : Int) (rr : Nat) (r : List D) (outer : List (List D)) (w p : List Nat) : Prop where
  dep : dep = outer.length
  txt : p = opnT outer ++ cur q r w
  word : WO q w rr
  emp : q = .start ∨ q = .opn → r = []
  out : q = .start → outer = []
  inn : q = .opn ∨ q = .gap → outer ≠ []
  some : q = .endd → w = [] → r ≠ []
  bot : outer = [] → (q = .endd ∧ w = [] ∧ ∃ d, r = [d]) ∨ (¬ (q = .endd ∧ w = []) ∧ r = [])
  last : outer ≠ [] → outer.getLast? = Option.some []
  vals : VS (r :: outer)
  l1 : ∀ x ∈ r :: outer, x.length ≤ p.length
  l2 : outer.length ≤ p.length
theorem pi_start (rr : Nat) : PI .start 0 rr [] [] [] [] where
  dep := rfl
  txt := rfl
  word := rfl
  emp := fun _ => rfl
  out := fun _ => rfl
  inn := fun z => by simp at z
  some := fun z => by cases z
  bot := fun _ => .inr ⟨(fun z => by cases z.1), rfl⟩
  last := fun z => absurd rfl z
  vals := ⟨fun d hd => by simp at hd, trivial⟩
  l1 := fun x hx => by simp at hx; subst hx; simp
  l2 := by simp
section
variable {q : Q} {dep : Int} {rr : Nat} {r : List D} {outer : List (List D)} {w p : List Nat}
theorem wo_st3 (h : WO q w rr) (hq : st3 q) : w = [] := by rcases hq with rfl | rfl | rfl <;> exact h
theorem cur_st3 (h : WO q w rr) (hq : st3 q) : cur q r w = fl r := by
  have := wo_st3 h hq
  subst this
  unfold cur
  rw [if_neg (fun z => by rcases hq with rfl | rfl | rfl <;> cases z.1), List.append_nil]
theorem PI.open (h : PI q dep rr r outer w p) (hq : st3 q) : PI .opn (dep + 1) 0 [] (r :: outer) [] (p ++ [40]) where
  dep := by have := h.dep; simp; omega
  txt := by rw [h.txt, cur_st3 h.word hq]; simp [opnT, cur, fl]
  word := rfl
  emp := fun _ => rfl
  out := fun z => by cases z
  inn := fun _ => by simp
  some := fun z => by cases z
  bot := fun z => by cases z
  last := fun _ => by
    cases outer with
    | nil =>
      have : r = [] := by
        rcases hq with rfl | rfl | rfl
        · exact h.emp (.inl rfl)
        · exact absurd rfl (h.inn (.inr rfl))
        · exact absurd rfl (h.inn (.inl rfl))
      rw [this]; rfl
    | cons a o => rw [List.getLast?_cons_cons]; exact h.last (by simp)
  vals := ⟨fun d hd => by simp at hd, h.vals⟩
  l1 := fun x hx => by
    rcases List.mem_cons.mp hx with
                                                                rfl | hx
    · simp
    · have := h.l1 x hx; simp; omega
  l2 := by have := h.l2; simp; omega
/-- a sign of a word -/
theorem PI.more (h : PI q dep rr r outer w p) {q' : Q} {c rr' : Nat} (hw : WO q' (w ++ [c]) rr') (hc : cur q r w = fl r ++ w) (hq : q' = .minus ∨ q' = .nought ∨ q' = .number ∨ q' = .word ∨ q' = .endd) (hr : outer = [] → r = []) : PI q' dep rr' r outer (w ++ [c]) (p ++ [c]) where
  dep := h.dep
  txt := by
    have e : cur q' r (w ++ [c]) = fl r ++ (w ++ [c]) := by unfold cur; rw [if_neg (fun z => by simp at z)]
    rw [h.txt, hc, e]; simp
  word := hw
  emp := fun z => by rcases hq with rfl | rfl | rfl | rfl | rfl <;> simp at z
  out := fun z => by rcases hq with rfl | rfl | rfl | rfl | rfl <;> simp at z
  inn := fun z => by rcases hq with rfl | rfl | rfl | rfl | rfl <;> simp at z
  some := fun _ z => by simp at z
  bot := fun z => .inr ⟨fun y => by simp at y, hr z⟩
  last := h.last
  vals := h.vals
  l1 := fun x hx => by have := h.l1 x hx; simp; omega
  l2 := by have := h.l2; simp; omega
/-- the row when its word is put in -/
theorem PI.flush (h : PI q dep rr r outer w p) (hf : fin q ∨ q = .opn) (hl : outer.length ≤ 6) (r2 : List D) (hr : (w = [] ∧ r2 = r) ∨ ∃ d, CW w d ∧ r2 = r ++ [d]) :
    cur q r w = joinS r2 ∧ (∀ d ∈ r2, Val (6 - outer.length) d) ∧ (q ≠ .opn → r2 ≠ []) ∧ r2.length ≤ p.length + 1 := by
  have hlr : r.length ≤ p.length := h.l1 r (by simp)
  rcases hr with ⟨hw, rfl⟩ | ⟨d, cw, rfl⟩
  · refine ⟨?_, h.vals.1, fun hq => ?_, by omega⟩
    · rcases hf with (rfl | rfl | rfl | rfl) | rfl
      · have : w = [48] := h.word
        rw [hw] at this; cases this
      · obtain ⟨neg, f, e, h1, h2, h3, h4⟩ := h.word
        rw [hw] at e
        exact absurd (List.append_eq_nil_iff.mp e.symm).2 h2
      · exact absurd hw h.word.1
      · unfold cur; rw [if_pos ⟨rfl, hw⟩]
      · rw [h.emp (.inr rfl), hw]; rfl
    · rcases hf with (rfl | rfl | rfl | rfl) | rfl
      · have : w = [48] := h.word
        rw [hw] at this; cases this
      · obtain ⟨neg, f, e, h1, h2, h3, h4⟩ := h.word
        rw [hw] at e
        exact absurd (List.append_eq_nil_iff.mp e.symm).2 h2
      · exact absurd hw h.word.1
      · exact h.some rfl hw
      · exact absurd rfl hq
  · obtain ⟨v1, v2⟩ := cw.val (6 - outer.length)
    have hne : w ≠ [] := by
      cases cw with
      | dot => simp
      | letr _ hn _ => exact hn
      | num neg f cf _ _ => exact fun z => cf.2.1 (List.append_eq_nil_iff.mp z).2
    refine ⟨?_, fun x hx => ?_, fun _ => by simp, by simp; omega⟩
    · unfold cur
      rw [if_neg (fun z => hne z.2), joinS_snoc, v2]
    · rcases List.mem_append.mp hx with
                                                                hx | hx
      · exact h.vals.1 x hx
      · rw [List.mem_singleton.mp hx]; exact v1
theorem PI.close {r1 : List D} (h : PI q dep rr r (r1 :: outer) w p) (hf : fin q ∨ q = .opn) (hl : outer.length + 1 ≤ 6) {r2 : List D} (hr : (w = [] ∧ r2 = r) ∨ ∃ d, CW w d ∧ r2 = r ++ [d]) :
    PI .endd (dep + dgo 41) 0 (r1 ++ [.tup r2]) outer [] (p ++ [41]) := by
  obtain ⟨f1, f2, f3, f4⟩ := h.flush hf (by simpa using hl) r2 hr
  have hv := h.vals.2
  exact {
    dep := by have := h.dep; show dep + -1 = _; simp at this; omega
    txt := by
      rw [h.txt, f1]
      have e : cur .endd (r1 ++ [.tup r2]) [] = joinS (r1 ++ [.tup r2]) := by unfold cur; rw [if_pos ⟨rfl, rfl⟩]
      rw [e, joinS_snoc, txt_tup]
      simp [opnT]
    word := .inl rfl
    emp := fun z => by simp at z
    out := fun z => by cases z
    inn := fun z => by simp at z
    some := fun _ _ => by simp
    bot := fun z => by
      subst z
      have := h.last (by simp)
      simp at this
      subst this
      exact .inl ⟨rfl, rfl, _, rfl⟩
    last := fun z => by
      have := h.last (by simp)
      cases outer with
      | nil => exact absurd rfl z
      | cons a o => rw [List.getLast?_cons_cons] at this; exact this
    vals := ⟨fun d hd => by
      rcases List.mem_append.mp hd with hd | hd
      · exact hv.1 d hd
      · rw [List.mem_singleton.mp hd]
        have e : 6 - outer.length = (6 - (r1 :: outer).length) + 1 := by rw [List.length_cons]; omega
        rw [e]
        exact .tup _ r2 f2, hv.2⟩
    l1 := fun x hx => by
      rcases List.mem_cons.mp hx with
                                                                  rfl | hx
      · have := h.l1 r1 (by simp); simp; omega
      · have := h.l1 x (by simp [hx]); simp; omega
    l2 := by have := h.l2; simp at this ⊢; omega }
theorem PI.blank (h : PI q dep rr r outer w p) (hf : fin q) (ho : outer ≠ []) (hl : outer.length ≤ 6) {r2 : List D} (hr : (w = [] ∧ r2 = r) ∨ ∃ d, CW w d ∧ r2 = r ++ [d]) :
    PI .gap (dep + dgo 32) 0 r2 outer [] (p ++ [32]) := by
  obtain ⟨f1, f2, f3, f4⟩ := h.flush (.inl hf) hl r2 hr
  have hne : r2 ≠ [] := f3 (fun z => by subst z; simp [fin] at hf)
  exact {
    dep := by rw [h.dep]; exact Int.add_zero _
    txt := by
      rw [h.txt, f1]
      have e : cur .gap r2 [] = fl r2 := by unfold cur; rw [if_neg (fun z => by cases z.1), List.append_nil]
      rw [e, List.append_assoc, joinS_sp hne]
    word := rfl
    emp := fun z => by simp at z
    out := fun z => by cases z
    inn := fun _ => ho
    some := fun z => by cases z
    bot := fun z => absurd z ho
    last := h.last
    vals := ⟨f2, h.vals.2⟩
    l1 := fun x hx => by
      rcases List.mem_cons.mp hx with
                                                                  rfl | hx
      · simp; omega
      · have := h.l1 x (by simp [hx]); simp; omega
    l2 := by have := h.l2; simp; omega }
/-- the end -/
theorem PI.fin (h : PI q 0 rr r outer w p) (hf : MP.k75.fin q) {r2 : List D} (hr : (w = [] ∧ r2 = r) ∨ ∃ d, CW w d ∧ r2 = r ++ [d]) : outer = [] ∧ ∃ d, r2 = [d] ∧ MP.k75.txt d = p ∧ Val 6 d := by
  have ho : outer = [] := List.eq_nil_of_length_eq_zero (by have := h.dep; omega)
  subst ho
  obtain ⟨f1, f2, f3, f4⟩ := h.flush (.inl hf) (by simp) r2 hr
  have e : p = joinS r2 := by rw [h.txt, f1]; rfl
  have one : ∃ d, r2 = [d] := by
    rcases h.bot rfl with ⟨rfl, hw, d, hd⟩ | ⟨hq, hd⟩
    · rcases hr with ⟨_, rfl⟩ | ⟨d', cw, _⟩
      · exact ⟨d, hd⟩
      · rw [hw] at cw
        exfalso
        have := (cw.val 0).1
        generalize hx : ([] : List Nat) = x at cw
        cases cw with
        | dot => cases hx
        | letr _ hn _ => exact hn hx.symm
        | num neg f cf _ _ => exact cf.2.1 (List.append_eq_nil_iff.mp hx.symm).2
    · rcases hr with ⟨hw, rfl⟩ | ⟨d', cw, rfl⟩
      · exfalso
        have := f3 (fun z => by subst z; simp [MP.k75.fin] at hf)
        exact this hd
      · exact ⟨d', by rw [hd]; rfl⟩
  obtain ⟨d, rfl⟩ := one
  refine ⟨rfl, d, rfl, ?_, f2 d (by simp)⟩
  rw [e, joinS_cons, sepj_nil, List.append_nil]
theorem PI.next (h : PI q dep rr r outer w p) {q' : Q} {c : Nat} (e : NS q c = Option.some q') (hc : c ∉ [40, 41, 32]) : PI q' (dep + dgo c) (if c ∈ digs then rr + 1 else 0) r outer (w ++ [c]) (p ++ [c]) := by
  have e0 : dep + dgo c = dep := by
    have h1 : c ≠ 40 := fun z => hc (by rw [z]; simp)
    have h2 : c ≠ 41 := fun z => hc (by rw [z]; simp)
    unfold dgo; rw [if_neg h1, if_neg h2]; exact Int.add_zero _
  rw [e0]
  have hr : q ≠ .endd → outer = [] → r = [] := fun hq z => by
    rcases h.bot z with ⟨y, _⟩ | ⟨_, y⟩
    · exact absurd y hq
    · exact y
  have hcur : q ≠ .endd → cur q r w = fl r ++ w := fun hq => by unfold cur; rw [if_neg fun z => hq z.1]
  have ow : ∀ q' : Q, (q' = .minus ∨ q' = .nought ∨ q' = .number ∨ q' = .word ∨ q' = .endd) → WO q' (w ++ [c]) (if c ∈ digs then rr + 1 else 0) → q ≠ .endd → PI q' dep (if c ∈ digs then rr + 1 else 0) r outer (w ++ [c]) (p ++ [c]) :=
    fun q' h1 h2 h3 => h.more h2 (hcur h3) h1 (hr h3)
  have ns : st3 q → q ≠ .endd := fun z => by rcases z with rfl | rfl | rfl <;> simp
  cases ch c with
  | op => exact absurd (by simp) hc
  | cl => exact absurd (by simp) hc
  | sp => exact absurd (by simp) hc
  | dot =>
    rw [ns_46] at e
    split at e
    · rename_i hq
      cases e
      exact ow _ (by simp) (by rw [wo_st3 h.word hq]; exact .inr rfl) (ns hq)
    · cases e
  | mi =>
    rw [ns_45] at e
    split at e
    · rename_i hq
      cases e
      exact ow _ (by simp) (by rw [wo_st3 h.word hq]; rfl) (ns hq)
    · cases e
  | ze =>
    rw [ns_48] at e
    split at e
    · rename_i hq
      cases e
      exact ow _ (by simp) (by rw [wo_st3 h.word hq]; rfl) (ns hq)
    · split at e
      · rename_i hq
        cases e
        subst hq
        obtain ⟨neg, f, e1, h1, h2, h3, h4⟩ := h.word
        refine ow _ (by simp) ⟨neg, f ++ [48], by rw [e1]; simp, AllD.app h1 (AllD.one (by decide)), by simp, ?_, ?_⟩ (by simp)
        · cases f with
          | nil => exact absurd rfl h2
          | cons a b => exact h3
        · rw [if_pos (by decide)]; simp; omega
      · cases e
  | dg _ h1 h2 =>
    have hd : c ∈ digs := mem_digs.mpr ⟨by omega, h2⟩
    rw [ns_dg h1 h2] at e
    rw [if_pos hd]
    rw [if_pos hd] at ow
    split at e
    · rename_i hq
      cases e
      have one : AllDigits [c] := AllD.one ⟨by omega, h2⟩
      rcases hq with hq | rfl | rfl
      · refine ow _ (by simp) ?_ (ns hq)
        rw [wo_st3 h.word hq]
        exact ⟨false, [c], rfl, one, by simp, by simp; omega, by simp⟩
      · refine ow _ (by simp) ?_ (by simp)
        have : w = [45] := h.word
        rw [this]
        exact ⟨true, [c], rfl, one, by simp, by simp; omega, by simp⟩
      · obtain ⟨neg, f, e1, h1', h2', h3, h4⟩ := h.word
        refine ow _ (by simp) ⟨neg, f ++ [c], by rw [e1]; simp, AllD.app h1' one, by simp, ?_, by simp; omega⟩ (by simp)
        cases f with
        | nil => exact absurd rfl h2'
        | cons a b => exact h3
    · cases e
  | lt _ h1 h2 =>
    rw [ns_lt h1 h2] at e
    split at e
    · rename_i hq
      cases e
      rcases hq with hq | rfl
      · refine ow _ (by simp) ?_ (ns hq)
        rw [wo_st3 h.word hq]
        exact ⟨by simp, fun d hd => by simp at hd; omega⟩
      · obtain ⟨w1, w2⟩ := h.word
        refine ow _ (by simp) ⟨by simp, fun d hd => ?_⟩ (by simp)
        rcases List.mem_append.mp hd with hd | hd
        · exact w2 d hd
        · rw [List.mem_singleton.mp hd]; exact ⟨h1, h2⟩
    · cases e
  | ot _ a1 a2 a3 a4 a5 a7 a8 =>
    rw [ns_ot a1 a2 a3 a4 a5 a7 a8] at e
    cases e
end
end MP.k75

set_option exponentiation.threshold 100000
namespace MP.k75
open PySem
open PySem.Spec
open PyProof.Rows
open L2
open MP
open NumText TL
local macro_rules | `(tactic| walk_at "mp1") => `(tactic| first
  | with_reducible refine w_seq ?_ | with_reducible refine w_nil ?_ | ((with_reducible apply w_var); · exact rfl) | ((with_reducible apply w_own); · exact rfl) | with_reducible refine w_lit ?_ | with_reducible refine w_gl ?_
  | with_reducible refine w_tup ?_ | with_reducible refine w_lst ?_ | with_reducible refine w_bin ?_ | with_reducible refine w_neg ?_ | with_reducible refine w_cmp ?_ | with_reducible refine w_and1 ?_ | with_reducible refine w_and ?_
  | with_reducible refine w_no ?_ | with_reducible refine w_tru ?_ | with_reducible refine w_ite ?_ | with_reducible refine w_idx ?_ | with_reducible refine w_slc ?_ | with_reducible refine w_o0 ?_ | with_reducible refine w_o1 ?_ | with_reducible refine w_call ?_
  | with_reducible refine w_pr ?_ | with_reducible refine w_isi ?_ | with_reducible refine w_es0 ?_ | with_reducible refine w_es1 ?_ | with_reducible refine w_if0 ?_ | with_reducible refine w_if1 ?_
  | with_reducible refine w_of ?_ | with_reducible refine w_rg1 ?_ | with_reducible refine w_rg2 ?_ | with_reducible refine w_set ?_ | with_reducible refine w_seto ?_ | with_reducible refine w_asg ?_ | with_reducible refine w_par2 ?_ | with_reducible refine w_par3 ?_
  | with_reducible refine w_app ?_ | with_reducible refine w_exp ?_ | with_reducible refine w_ret ?_ | ((with_reducible apply w_reto); · exact rfl) | with_reducible refine w_retn ?_ | with_reducible refine w_brk ?_ | with_reducible refine w_cnt ?_
  | with_reducible refine w_pass ?_ | ((with_reducible apply w_frz); · exact rfl) | with_reducible refine w_ifs ?_
  | with_reducible refine ob_add ?_ | with_reducible refine ob_sub ?_ | with_reducible refine ob_eqi ?_ | with_reducible refine ob_nei ?_ | with_reducible refine ob_lti ?_ | with_reducible refine ob_lei ?_ | with_reducible refine ob_gti ?_ | with_reducible refine ob_gei ?_
  | with_reducible refine ob_isb ?_ | with_reducible refine ob_nisb ?_ | with_reducible refine ob_lent ?_ | with_reducible refine ob_lenl ?_ | with_reducible refine ob_gcd ?_ | with_reducible refine ob_int ?_ | with_reducible refine ob_tupl ?_
  | with_reducible refine ob_lstt ?_ | with_reducible refine ob_lstl ?_ | with_reducible refine ob_trub ?_
  | ((with_reducible apply wlt); · exact of_decide_eq_true rfl) | ((with_reducible apply wlt2); · exact of_decide_eq_true rfl) | ((with_reducible apply wlt3); · exact of_decide_eq_true rfl) | ((with_reducible apply wmost); · exact of_decide_eq_true rfl)
  | ((with_reducible apply wlst); · exact rfl) | ((with_reducible apply wint); · exact rfl)
  | ((with_reducible apply wb); · exact rfl)
  | ((with_reducible apply ob_rfl); · exact rfl)
  | ((with_reducible apply ifp); · exact rfl) | ((with_reducible apply ifn); · exact fun e => Bool.noConfusion e))
local macro_rules | `(tactic| walk_at "mp") => `(tactic| repeat walk_at "mp1")
local macro_rules | `(tactic| walk_at "mp1") => `(tactic| first
  | with_reducible refine w_join ?_ | with_reducible refine w_lstr ?_ | with_reducible refine w_dget ?_ | with_reducible refine w_popl ?_ | with_reducible refine w_isi2 ?_ | with_reducible refine w_new ?_ | with_reducible refine w_appr ?_
  | with_reducible refine w_setir ?_ | with_reducible refine w_enumS ?_ | with_reducible refine ob_inc ?_ | with_reducible refine ob_ninc ?_ | with_reducible refine ob_isn ?_ | with_reducible refine ob_nisn ?_ | with_reducible refine ob_eqb ?_ | with_reducible refine ob_neb ?_
  | ((with_reducible apply ob_eqc); (focus assumption); (focus exact rfl)) | ((with_reducible apply ob_nec); (focus assumption); (focus exact rfl)))
/-! ### texts that are written -/
theorem strs_txt : ∀ l : List D, strsOf (l.map fun d => D.str (txt d)) = some (txts l)
  | [] => rfl
  | d :: r => by
    show (strsOf (r.map fun d => D.str (txt d))).map (txt d :: ·) = _
    rw [strs_txt r]; rfl
theorem join_sum : ∀ l : List D, ((txts l).map (·.length)).sum + (txts l).length * 1 ≤ (joinS l).length + 1
  | [] => by simp [txts]
  | [a] => by simp [txts, joinS_cons, sepj_nil]
  | a :: b :: l => by
    have ih := join_sum (b :: l)
    rw [joinS_cons, sepj_cons, List.length_append, List.length_cons]
    rw [show txts (a :: b :: l) = txt a :: txts (b :: l) from rfl, List.map_cons, List.sum_cons, List.length_cons]
    omega
theorem part_len : ∀ {l : List D} {d : D}, d ∈ l → (txt d).length ≤ (joinS l).length
  | a :: l, d, h => by
    rw [joinS_cons, List.length_append]
    rcases List.mem_cons.mp h with
                                                                rfl | h
    · omega
    · have := part_len h
      cases l with
      | nil => cases h
      | cons b l => rw [sepj_cons, List.length_cons]; omega
theorem count_len {n : Nat} : ∀ {l : List D}, (∀ d ∈ l, Val n d) → l.length ≤ (joinS l).length
  | [], _ => by simp
  | a :: l, h => by
    obtain ⟨c, r, e, _⟩ := head_txt (h a (by simp))
    have ih := count_len (l := l) fun d hd => h d (List.mem_cons_of_mem _ hd)
    rw [joinS_cons, List.length_append, e]
    cases l with
    | nil => simp; omega
    | cons b l => simp only [sepj_cons, List.length_cons] at *; omega
theorem pow500 {z : Int} (h : z.natAbs < 10 ^ 500) : z.natAbs.log2 < 1920 ∧ (numL z.natAbs).length ≤ 500 := by
  refine ⟨Nat.lt_of_lt_of_le (log_lt (p := 1670) (Nat.lt_of_lt_of_le h pw_bd) (by decide)) (by decide), numL_len (by decide) h⟩
theorem wv_w {n : Nat} {d : D} (v : Val n d) : ∀ (k : Nat) (h : Hh), (txt d).length ≤ 100000 → W (run Pg fu (n + k + 3) "write_value" [d] h) (Is (.str (txt d)) h) := by
  induction v with
  | str n s hs =>
    intro k h hl
    refine w_run i_wv rfl ?_
    have hcod : Cod s := fun c hc => by have := hs c hc; omega
    walk_at "mp"
    refine ob_eqs hcod (by unfold Cod; simp) ?_
    walk_at "mp"
    by_cases e : s = []
    · have e' : decide (s = []) = true := decide_eq_true e
      simp only [e', if_true]
      walk_at "mp"
      exact ⟨by rw [txt, if_pos e], rfl⟩
    · have e' : decide (s = []) = false := decide_eq_false e
      simp only [e', Bool.false_eq_true, if_false]
      walk_at "mp"
      exact ⟨by rw [txt, if_neg e], rfl⟩
  | int n z hz =>
    intro k h hl
    refine w_run i_wv rfl ?_
    walk_at "mp"
    have := wi_w (n := n + k) (h := h) (z := z) (by have := (pow500 hz).2; omega)
    refine this.imp ?_
    rintro _ _ ⟨rfl, rfl⟩
    exact ⟨by rw [txt], rfl⟩
  | tup n l hl ih =>
    intro k h hlen
    rw [txt_tup] at hlen ⊢
    have hj : (joinS l).length + 2 ≤ 100000 := by simp at hlen; omega
    have hct := count_len hl
    refine w_run i_wv rfl ?_
    walk_at "mp"
    refine w_comp ?_
    walk_at "mp"
    refine ⟨lt_most (by omega), fun items acc hh => hh = h ∧ ∃ done, l = done ++ items ∧ acc = done.map fun d => D.str (txt d), ⟨rfl, [], rfl, rfl⟩, ?_, ?_⟩
    · rintro d r acc hh ⟨rfl, done, e1, rfl⟩
      have hd : d ∈ l := by rw [e1]; simp
      refine .of rfl ?_
      walk_at "mp"
      have := ih d hd k hh (Nat.le_trans (part_len hd) (by omega))
      rw [show n + k + 3 = n + 1 + k + 2 by omega] at this
      refine this.imp ?_
      rintro _ _ ⟨rfl, rfl⟩
      exact ⟨rfl, done ++ [d], by rw [e1]; simp, by simp⟩
    · rintro acc hh ⟨rfl, done, e1, rfl⟩
      rw [List.append_nil] at e1
      subst e1
      refine ⟨_, _, _, rfl, rfl, strs_txt l, ?_, ?_⟩
      · have := join_sum l
        exact lt_most (by show _ + _ * 1 ≤ 100000; omega)
      · refine ob_strs (lt_most (by show _ + (joinS l).length ≤ 100000; simp; omega)) ?_
        walk_at "mp"
        refine ob_strs (lt_most (by show (_ ++ joinS l).length + _ ≤ 100000; simp; omega)) ?_
        walk_at "mp"
        exact ⟨by simp [joinS], rfl⟩
theorem lt_w {n : Nat} {d : D} (v : Val n d) : ∀ (k : Nat) (h : Hh), (txt d).length ≤ 100000 → W (run Pg fu (n + k + 1) "_law_text" [d] h) (Is (.str (txt d)) h) := by
  induction v with
  | str n s hs =>
    intro k h hl
    refine w_run i_text rfl ?_
    have hcod : Cod s := fun c hc => by have := hs c hc; omega
    walk_at "mp"
    refine ob_nes hcod (by unfold Cod; simp) ?_
    walk_at "mp"
    by_cases e : s = []
    · have e' : decide (s = []) = true := decide_eq_true e
      simp only [e', Bool.not_true, Bool.false_eq_true, if_false]
      walk_at "mp"
      exact ⟨by rw [txt, if_pos e], rfl⟩
    · have e' : decide (s = []) = false := decide_eq_false e
      simp only [e', Bool.not_false, if_true]
      walk_at "mp"
      exact ⟨by rw [txt, if_neg e], rfl⟩
  | int n z hz =>
    intro k h hl
    refine w_run i_text rfl ?_
    walk_at "mp"
    refine ob_stri (pow500 hz).1 ?_
    walk_at "mp"
    exact ⟨by rw [txt, cs_int], rfl⟩
  | tup n l hl ih =>
    intro k h hlen
    rw [txt_tup] at hlen ⊢
    have hj : (joinS l).length + 2 ≤ 100000 := by simp at hlen; omega
    have hct := count_len hl
    refine w_run i_text rfl ?_
    walk_at "mp"
    refine w_comp ?_
    walk_at "mp"
    refine ⟨lt_most (by omega), fun items acc hh => hh = h ∧ ∃ done, l = done ++ items ∧ acc = done.map fun d => D.str (txt d), ⟨rfl, [], rfl, rfl⟩, ?_, ?_⟩
    · rintro d r acc hh ⟨rfl, done, e1, rfl⟩
      have hd : d ∈ l := by rw [e1]; simp
      refine .of rfl ?_
      walk_at "mp"
      have := ih d hd k hh (Nat.le_trans (part_len hd) (by omega))
      rw [show n + k + 1 = n + 1 + k by omega] at this
      refine this.imp ?_
      rintro _ _ ⟨rfl, rfl⟩
      exact ⟨rfl, done ++ [d], by rw [e1]; simp, by simp⟩
    · rintro acc hh ⟨rfl, done, e1, rfl⟩
      rw [List.append_nil] at e1
      subst e1
      refine ⟨_, _, _, rfl, rfl, strs_txt l, ?_, ?_⟩
      · have := join_sum l
        exact lt_most (by show _ + _ * 1 ≤ 100000; omega)
      · refine ob_strs (lt_most (by show _ + (joinS l).length ≤ 100000; simp; omega)) ?_
        walk_at "mp"
        refine ob_strs (lt_most (by show (_ ++ joinS l).length + _ ≤ 100000; simp; omega)) ?_
        walk_at "mp"
        exact ⟨by simp [joinS], rfl⟩

/-! ### what is a value -/
theorem isv_w {n : Nat} {d : D} (v : Val n d) : ∀ (k : Nat) (h : Hh), W (run Pg fu (n + k + 1) "is_value" [d] h) (Is (.bl true) h) := by
  induction v with
  | str n s hs =>
    intro k h
    refine w_run i_isv rfl ?_
    walk_at "mp"
    refine w_gen ?_
    walk_at "mp"
    refine ⟨fun items hh => hh = h ∧ ∃ done rest, s = done ++ rest ∧ items = rest.map fun z => D.str [z], ⟨rfl, [], s, rfl, rfl⟩, ?_, ?_⟩
    · rintro d r hh ⟨rfl, done, rest, e1, e2⟩
      cases rest with
      | nil => cases e2
      | cons c rest =>
        rw [List.map_cons] at e2
        injection e2 with e3 e4
        subst e3 e4
        refine .of rfl ?_
        walk_at "mp"
        have hm : c ∈ letters := mem_let.mpr (hs c (by rw [e1]; simp))
        simp only [hm, decide_true, if_true]
        exact ⟨trivial, done ++ [c], rest, by rw [e1]; simp, rfl⟩
    · rintro hh ⟨rfl, _⟩
      exact is_mk
  | int n z hz =>
    intro k h
    refine w_run i_isv rfl ?_
    walk_at "mp"
    exact is_mk
  | tup n l hl ih =>
    intro k h
    refine w_run i_isv rfl ?_
    walk_at "mp"
    refine w_gen ?_
    walk_at "mp"
    refine ⟨fun items hh => hh = h ∧ ∃ done, l = done ++ items, ⟨rfl, [], rfl⟩, ?_, ?_⟩
    · rintro d r hh ⟨rfl, done, e1⟩
      have hd : d ∈ l := by rw [e1]; simp
      refine .of rfl ?_
      walk_at "mp"
      have := ih d hd k hh
      rw [show n + k + 1 = n + 1 + k by omega] at this
      refine this.imp ?_
      rintro _ _ ⟨rfl, rfl⟩
      refine ⟨_, rfl, ?_⟩
      simp only [if_true]
      exact ⟨trivial, done ++ [d], by rw [e1]; simp⟩
    · rintro hh ⟨rfl, _⟩
      exact is_mk

/-! ### alike -/
inductive Ex : Nat → D → Prop where
  | non (n : Nat) : Ex n .non
  | bl (n : Nat) (b : Bool) : Ex n (.bl b)
  | int (n : Nat) (z : Int) : Ex n (.int z)
  | str (n : Nat) (s : List Nat) : Cod s → Ex n (.str s)
  | tup (n : Nat) (l : List D) : (∀ d ∈ l, Ex n d) → l.length ≤ 100000 → Ex (n + 1) (.tup l)
  | lst (n : Nat) (l : List D) : (∀ d ∈ l, Ex n d) → l.length ≤ 100000 → Ex (n + 1) (.lst l)
theorem Ex.mono {n : Nat} {d : D} (h : Ex n d) : ∀ {m : Nat}, n ≤ m → Ex m d := by
  induction h with
  | non n => exact fun _ => .non _
  | bl n b => exact fun _ => .bl _ b
  | int n z => exact fun _ => .int _ z
  | str n s h => exact fun _ => .str _ s h
  | tup n l h hl ih =>
    intro m hm
    obtain ⟨k, rfl⟩ : ∃ k, m = k + 1 := ⟨m - 1, by omega⟩
    exact .tup k l (fun d hd => ih d hd (by omega)) hl
  | lst n l h hl ih =>
    intro m hm
    obtain ⟨k, rfl⟩ : ∃ k, m = k + 1 := ⟨m - 1, by omega⟩
    exact .lst k l (fun d hd => ih d hd (by omega)) hl
theorem Val.ex {n : Nat} {d : D} (h : Val n d) : (txt d).length ≤ 100000 → Ex n d := by
  induction h with
  | str n s h => exact fun _ => .str n s fun c hc => by have := h c hc; omega
  | int n z h => exact fun _ => .int n z
  | tup n l h ih =>
    intro hl
    rw [txt_tup] at hl
    have hj : (joinS l).length + 2 ≤ 100000 := by simp at hl; omega
    exact .tup n l (fun d hd => ih d hd (Nat.le_trans (part_len hd) (by omega))) (Nat.le_trans (count_len h) (by omega))
theorem bls_true : ∀ k : Nat, blsOf (List.replicate k (D.bl true)) = some (List.replicate k true)
  | 0 => rfl
  | k + 1 => by
    show (blsOf (List.replicate k (D.bl true))).map (true :: ·) = _
    rw [bls_true k]; rfl
theorem all_true (k : Nat) : (List.replicate k true).all id = true := by simp
theorem ex_w {n : Nat} {d : D} (v : Ex n d) : ∀ (k : Nat) (h : Hh), W (run Pg fu (n + k + 1) "_law_exact" [d, d] h) (Is (.bl true) h) := by
  induction v with
  | non n =>
    intro k h
    refine w_run i_exact rfl ?_
    walk_at "mp"
    exact is_mk
  | bl n b =>
    intro k h
    refine w_run i_exact rfl ?_
    walk_at "mp"
    cases b <;> exact is_mk
  | int n z =>
    intro k h
    refine w_run i_exact rfl ?_
    walk_at "mp"
    exact ⟨by simp, rfl⟩
  | str n s hs =>
    intro k h
    refine w_run i_exact rfl ?_
    walk_at "mp"
    refine ob_eqs hs hs ?_
    walk_at "mp"
    exact ⟨by simp, rfl⟩
  | tup n l hl hll ih =>
    intro k h
    refine w_run i_exact rfl ?_
    walk_at "mp"
    simp only [decide_true, if_true]
    walk_at "mp"
    refine w_comp ?_
    walk_at "mp"
    refine ⟨by unfold rgOk; rw [decide_eq_true_eq]; omega, by simp [rgD]; exact lt_most hll, ?_⟩
    refine ⟨fun items acc hh => hh = h ∧ ∃ a : Nat, a ≤ l.length ∧ items = rgD (a : Nat) (l.length : Nat) ∧ acc = List.replicate a (D.bl true), ⟨rfl, 0, Nat.zero_le _, rfl, rfl⟩, ?_, ?_⟩
    · rintro d r acc hh ⟨rfl, a, ha, e1, rfl⟩
      rcases Nat.lt_or_ge a l.length with q | q
      · rw [rgD_go (by omega)] at e1
        injection e1 with e5 e6
        subst e5 e6
        refine .of rfl ?_
        walk_at "mp"
        have eg : atI l ((a : Nat) : Int) = some l[a] := by rw [at_nat (by omega)]; simp [q]
        refine ob_ixt eg ?_
        walk_at "mp"
        refine ob_ixt eg ?_
        walk_at "mp"
        have := ih l[a] (List.getElem_mem q) k hh
        rw [show n + k + 1 = n + 1 + k by omega] at this
        refine this.imp ?_
        rintro _ _ ⟨rfl, rfl⟩
        exact ⟨rfl, a + 1, q, by simp, by rw [List.replicate_succ']⟩
      · rw [rgD_end (by omega)] at e1
        cases e1
    · rintro acc hh ⟨rfl, a, ha, e1, rfl⟩
      rcases Nat.lt_or_ge a l.length with q | q
      · rw [rgD_go (by omega)] at e1
        cases e1
      · walk_at "mp"
        refine .of (show prD hh .all [.lst (List.replicate a (D.bl true))] = some (.bl true) from ?_) ?_
        · have : prD hh .all [.lst (List.replicate a (D.bl true))] = (blsOf (List.replicate a (D.bl true))).map fun ns => D.bl (ns.all id) := rfl
          rw [this, bls_true, Option.map_some, all_true]
        · exact is_mk
  | lst n l hl hll ih =>
    intro k h
    refine w_run i_exact rfl ?_
    walk_at "mp"
    simp only [decide_true, if_true]
    walk_at "mp"
    refine w_comp ?_
    walk_at "mp"
    refine ⟨by unfold rgOk; rw [decide_eq_true_eq]; omega, by simp [rgD]; exact lt_most hll, ?_⟩
    refine ⟨fun items acc hh => hh = h ∧ ∃ a : Nat, a ≤ l.length ∧ items = rgD (a : Nat) (l.length : Nat) ∧ acc = List.replicate a (D.bl true), ⟨rfl, 0, Nat.zero_le _, rfl, rfl⟩, ?_, ?_⟩
    · rintro d r acc hh ⟨rfl, a, ha, e1, rfl⟩
      rcases Nat.lt_or_ge a l.length with q | q
      · rw [rgD_go (by omega)] at e1
        injection e1 with e5 e6
        subst e5 e6
        refine .of rfl ?_
        walk_at "mp"
        have eg : atI l ((a : Nat) : Int) = some l[a] := by rw [at_nat (by omega)]; simp [q]
        refine ob_ixl eg ?_
        walk_at "mp"
        refine ob_ixl eg ?_
        walk_at "mp"
        have := ih l[a] (List.getElem_mem q) k hh
        rw [show n + k + 1 = n + 1 + k by omega] at this
        refine this.imp ?_
        rintro _ _ ⟨rfl, rfl⟩
        exact ⟨rfl, a + 1, q, by simp, by rw [List.replicate_succ']⟩
      · rw [rgD_end (by omega)] at e1
        cases e1
    · rintro acc hh ⟨rfl, a, ha, e1, rfl⟩
      rcases Nat.lt_or_ge a l.length with q | q
      · rw [rgD_go (by omega)] at e1
        cases e1
      · walk_at "mp"
        refine .of (show prD hh .all [.lst (List.replicate a (D.bl true))] = some (.bl true) from ?_) ?_
        · have : prD hh .all [.lst (List.replicate a (D.bl true))] = (blsOf (List.replicate a (D.bl true))).map fun ns => D.bl (ns.all id) := rfl
          rw [this, bls_true, Option.map_some, all_true]
        · exact is_mk
end MP.k75

set_option exponentiation.threshold 100000
namespace MP.k75
open PySem
open PySem.Spec
open PyProof.Rows
open L2
open MP
open NumText TL
local macro_rules | `(tactic| walk_at "mp1") => `(tactic| first
  | with_reducible refine w_seq ?_ | with_reducible refine w_nil ?_ | ((with_reducible apply w_var); · exact rfl) | ((with_reducible apply w_own); · exact rfl) | with_reducible refine w_lit ?_ | with_reducible refine w_gl ?_
  | with_reducible refine w_tup ?_ | with_reducible refine w_lst ?_ | with_reducible refine w_bin ?_ | with_reducible refine w_neg ?_ | with_reducible refine w_cmp ?_ | with_reducible refine w_and1 ?_ | with_reducible refine w_and ?_
  | with_reducible refine w_no ?_ | with_reducible refine w_tru ?_ | with_reducible refine w_ite ?_ | with_reducible refine w_idx ?_ | with_reducible refine w_slc ?_ | with_reducible refine w_o0 ?_ | with_reducible refine w_o1 ?_ | with_reducible refine w_call ?_
  | with_reducible refine w_pr ?_ | with_reducible refine w_isi ?_ | with_reducible refine w_es0 ?_ | with_reducible refine w_es1 ?_ | with_reducible refine w_if0 ?_ | with_reducible refine w_if1 ?_
  | with_reducible refine w_of ?_ | with_reducible refine w_rg1 ?_ | with_reducible refine w_rg2 ?_ | with_reducible refine w_set ?_ | with_reducible refine w_seto ?_ | with_reducible refine w_asg ?_ | with_reducible refine w_par2 ?_ | with_reducible refine w_par3 ?_
  | with_reducible refine w_app ?_ | with_reducible refine w_exp ?_ | with_reducible refine w_ret ?_ | ((with_reducible apply w_reto); · exact rfl) | with_reducible refine w_retn ?_ | with_reducible refine w_brk ?_ | with_reducible refine w_cnt ?_
  | with_reducible refine w_pass ?_ | ((with_reducible apply w_frz); · exact rfl) | with_reducible refine w_ifs ?_
  | with_reducible refine ob_add ?_ | with_reducible refine ob_sub ?_ | with_reducible refine ob_eqi ?_ | with_reducible refine ob_nei ?_ | with_reducible refine ob_lti ?_ | with_reducible refine ob_lei ?_ | with_reducible refine ob_gti ?_ | with_reducible refine ob_gei ?_
  | with_reducible refine ob_isb ?_ | with_reducible refine ob_nisb ?_ | with_reducible refine ob_lent ?_ | with_reducible refine ob_lenl ?_ | with_reducible refine ob_gcd ?_ | with_reducible refine ob_int ?_ | with_reducible refine ob_tupl ?_
  | with_reducible refine ob_lstt ?_ | with_reducible refine ob_lstl ?_ | with_reducible refine ob_trub ?_
  | ((with_reducible apply wlt); · exact of_decide_eq_true rfl) | ((with_reducible apply wlt2); · exact of_decide_eq_true rfl) | ((with_reducible apply wlt3); · exact of_decide_eq_true rfl) | ((with_reducible apply wmost); · exact of_decide_eq_true rfl)
  | ((with_reducible apply wlst); · exact rfl) | ((with_reducible apply wint); · exact rfl)
  | ((with_reducible apply wb); · exact rfl)
  | ((with_reducible apply ob_rfl); · exact rfl)
  | ((with_reducible apply ifp); · exact rfl) | ((with_reducible apply ifn); · exact fun e => Bool.noConfusion e))
local macro_rules | `(tactic| walk_at "mp") => `(tactic| repeat walk_at "mp1")
local macro_rules | `(tactic| walk_at "mp1") => `(tactic| first
  | with_reducible refine w_join ?_ | with_reducible refine w_lstr ?_ | with_reducible refine w_dget ?_ | with_reducible refine w_popl ?_ | with_reducible refine w_isi2 ?_ | with_reducible refine w_new ?_ | with_reducible refine w_appr ?_
  | with_reducible refine w_setir ?_ | with_reducible refine w_enumS ?_ | with_reducible refine ob_inc ?_ | with_reducible refine ob_ninc ?_ | with_reducible refine ob_isn ?_ | with_reducible refine ob_nisn ?_ | with_reducible refine ob_eqb ?_ | with_reducible refine ob_neb ?_
  | ((with_reducible apply ob_eqc); (focus assumption); (focus exact rfl)) | ((with_reducible apply ob_nec); (focus assumption); (focus exact rfl)))
/-! ### value_of -/
theorem vo_w {n : Nat} {h : Hh} {w : List Nat} {d : D} (cw : CW w d) (hl : w.length ≤ 100000) : W (run Pg fu (n + 2) "value_of" [.str w] h) (Is d h) := by
  refine w_run i_vo rfl ?_
  cases cw with
  | dot =>
    walk_at "mp"
    exact is_mk
  | letr _ hn hw =>
    have hcod : Cod w := fun c hc => by have := hw c hc; omega
    walk_at "mp"
    refine ob_eqs hcod (by unfold Cod; decide) ?_
    walk_at "mp"
    have n46 : ¬ w = [46] := fun z => by have := hw 46 (by rw [z]; simp); omega
    simp only [n46, decide_false, Bool.false_eq_true, if_false]
    walk_at "mp"
    obtain ⟨c, r, rfl⟩ : ∃ c r, w = c :: r := by
      cases w with
      | nil => exact absurd rfl hn
      | cons c r => exact ⟨c, r, rfl⟩
    have hc := hw c (by simp)
    refine ob_ixs (y := c) (lt_most hl) (by rw [at_nat (by decide)]; rfl) ?_
    walk_at "mp"
    have hm : c ∈ letters := mem_let.mpr hc
    simp only [hm, decide_true, if_true]
    walk_at "mp"
    exact is_mk
  | num neg f cf hh hf =>
    obtain ⟨c, r, ef⟩ : ∃ c r, f = c :: r := by
      cases f with
      | nil => exact absurd rfl cf.2.1
      | cons c r => exact ⟨c, r, rfl⟩
    have hc : 48 ≤ c ∧ c ≤ 57 := cf.1 c (by rw [ef]; simp)
    obtain ⟨w, hw⟩ : ∃ w, w = (if neg = true then [45] else []) ++ f := ⟨_, rfl⟩
    have ri := ri_w (n := n) (h := h) neg cf.1 cf.2.1 (by omega)
    rw [← hw] at ri hl ⊢
    have hcod : Cod w := fun x hx => by
      rw [hw] at hx
      rcases List.mem_append.mp hx with
                                                                  hx | hx
      · split at hx
        · rw [List.mem_singleton.mp hx]; decide
        · simp at hx
      · have := cf.1 x hx; omega
    obtain ⟨c0, h0, h1⟩ : ∃ c0, atI w 0 = some c0 ∧ c0 ∉ letters ∧ w ≠ [46] := by
      rw [at_nat (by decide), hw]
      cases neg with
      | true => exact ⟨45, rfl, by decide, by simp⟩
      | false => exact ⟨c, by rw [ef]; rfl, fun z => by have := mem_let.mp z; omega, by rw [ef]; simp; omega⟩
    walk_at "mp"
    refine ob_eqs hcod (by unfold Cod; decide) ?_
    walk_at "mp"
    simp only [h1.2, decide_false, Bool.false_eq_true, if_false]
    walk_at "mp"
    refine ob_ixs (lt_most hl) h0 ?_
    walk_at "mp"
    simp only [h1.1, decide_false, Bool.false_eq_true, if_false]
    walk_at "mp"
    exact ri
/-! ### the rows -/
inductive F2 {α β : Type} (R : α → β → Prop) : List α → List β → Prop where
  | nil : F2 R [] []
  | cons {a : α} {b : β} {l : List α} {m : List β} : R a b → F2 R l m → F2 R (a :: l) (b :: m)
structure HS (h h1 : Hh) (ix : List Nat) (S : List (List D)) : Prop where
  ex : ∃ t, h1 = h ++ t
  rows : h1[h.length + 1]? = some (.lst ((ix.reverse).map fun i => D.ref (h.length + i)))
  nd : ix.Nodup
  n1 : 1 ∉ ix
  at' : F2 (fun i r => h1[h.length + i]? = some (.lst r)) ix S
theorem set_ex {h h1 : Hh} {k : Nat} {o : MO} (e : ∃ t, h1 = h ++ t) : ∃ t, h1.set (h.length + k) o = h ++ t := by
  obtain ⟨t, rfl⟩ := e
  exact ⟨t.set k o, by rw [List.set_append_right _ _ (by omega), Nat.add_sub_cancel_left]⟩
theorem fa_mem {α β : Type} {R : α → β → Prop} {l : List α} {m : List β} (f : F2 R l m) : ∀ a ∈ l, ∃ b, R a b := by
  induction f with
  | nil => simp
  | cons r _ ih =>
    intro a ha
    rcases List.mem_cons.mp ha with
                                                                rfl | ha
    · exact ⟨_, r⟩
    · exact ih a ha
theorem fa_imp {α β : Type} {R R' : α → β → Prop} {l : List α} {m : List β} (f : F2 R l m) (h : ∀ a b, a ∈ l → R a b → R' a b) : F2 R' l m := by
  induction f with
  | nil => exact .nil
  | cons r _ ih => exact .cons (h _ _ (by simp) r) (ih fun a b ha => h a b (List.mem_cons_of_mem _ ha))
section
variable {h h1 : Hh} {i : Nat} {ix : List Nat} {r : List D} {S : List (List D)}
theorem HS.top (s : HS h h1 (i :: ix) (r :: S)) : h1[h.length + i]? = some (.lst r) := by cases s.at' with | cons a _ => exact a
theorem HS.last (s : HS h h1 (i :: ix) (r :: S)) : atI (((i :: ix).reverse).map fun i => D.ref (h.length + i)) (-1) = some (.ref (h.length + i)) := by
  rw [List.reverse_cons, List.map_append]
  obtain ⟨x, d, e, _, e2⟩ := split_last (l := (ix.reverse.map fun i => D.ref (h.length + i)) ++ [D.ref (h.length + i)]) (by simp)
  have := (List.append_inj' e rfl).2
  injection this with this
  rw [← this] at e2
  exact e2
theorem lt_of_get {α : Type} {l : List α} {k : Nat} {x : α} (e : l[k]? = some x) : k < l.length := (List.getElem?_eq_some_iff.mp e).1
theorem get_set_self {α : Type} {l : List α} {k : Nat} {x y : α} (e : l[k]? = some x) : (l.set k y)[k]? = some y := List.getElem?_set_self (lt_of_get e)
/-- a value is put into the last row -/
theorem HS.put (s : HS h h1 (i :: ix) (r :: S)) (v : D) : HS h (h1.set (h.length + i) (.lst (r ++ [v]))) (i :: ix) ((r ++ [v]) :: S) where
  ex := set_ex s.ex
  rows := by
    have n1 := s.n1
    simp only [List.mem_cons, not_or] at n1
    rw [List.getElem?_set_ne (by omega)]; exact s.rows
  nd := s.nd
  n1 := s.n1
  at' := by
    have nd := s.nd
    rw [List.nodup_cons] at nd
    cases s.at' with
    | cons a f =>
      refine .cons (get_set_self a) (fa_imp f fun k b hk e => ?_)
      rw [List.getElem?_set_ne (by intro z; have : i = k := (by omega); subst this; exact nd.1 hk)]
      exact e
/-- a new row -/
theorem HS.push (s : HS h h1 ix S) : ∃ k, h1.length = h.length + k ∧ HS h ((h1 ++ [MO.lst []]).set (h.length + 1) (MO.lst (((ix.reverse).map fun i => D.ref (h.length + i)) ++ [D.ref h1.length]))) (k :: ix) ([] :: S) := by
  obtain ⟨t, ht⟩ := s.ex
  have hl1 : h1.length = h.length + t.length := by rw [ht, List.length_append]
  have lr := lt_of_get s.rows
  have lts : ∀ a ∈ ix, h.length + a < h1.length := fun a ha => by
    obtain ⟨b, e⟩ := fa_mem s.at' a ha
    exact lt_of_get e
  refine ⟨t.length, hl1, ?_⟩
  exact {
    ex := set_ex ⟨t ++ [.lst []], by rw [ht, List.append_assoc]⟩
    rows := by
      rw [List.getElem?_set_self (by simp; omega), List.reverse_cons, List.map_append, hl1]; rfl
    nd := List.nodup_cons.mpr ⟨fun z => by have := lts _ z; omega, s.nd⟩
    n1 := fun z => by
      rcases List.mem_cons.mp z with
                                                                  z | z
      · omega
      · exact s.n1 z
    at' := by
      refine .cons ?_ (fa_imp s.at' fun a b ha e => ?_)
      · rw [List.getElem?_set_ne (by omega), List.getElem?_append_right (by omega), show h.length + t.length - h1.length = 0 by omega]; rfl
      · have := lts a ha
        have na : a ≠ 1 := fun z => s.n1 (z ▸ ha)
        rw [List.getElem?_set_ne (by omega), List.getElem?_append_left (by omega)]
        exact e }
/-- the last row is taken away -/
theorem HS.pop (s : HS h h1 (i :: ix) (r :: S)) : HS h (h1.set (h.length + 1) (.lst (((i :: ix).reverse).map fun i => D.ref (h.length + i)).dropLast)) ix S ∧ (h1.set (h.length + 1) (.lst (((i :: ix).reverse).map fun i => D.ref (h.length + i)).dropLast))[h.length + i]? = some (.lst r) := by
  have n1 := s.n1
  simp only [List.mem_cons, not_or] at n1
  have nd := s.nd
  rw [List.nodup_cons] at nd
  have el : (((i :: ix).reverse).map fun i => D.ref (h.length + i)).dropLast = (ix.reverse).map fun i => D.ref (h.length + i) := by
    rw [List.reverse_cons, List.map_append]
    exact List.dropLast_concat
  rw [el]
  cases s.at' with
  | cons a f =>
    refine ⟨⟨set_ex s.ex, get_set_self s.rows, nd.2, n1.2, fa_imp f fun k b hk e => ?_⟩, ?_⟩
    · rw [List.getElem?_set_ne (by intro z; have : k = 1 := (by omega); subst this; exact n1.2 hk)]
      exact e
    · rw [List.getElem?_set_ne (by omega)]; exact a
end
end MP.k75

set_option exponentiation.threshold 100000
namespace MP.k75
open PySem
open PySem.Spec
open PyProof.Rows
open L2
open MP
open NumText TL
local macro_rules | `(tactic| walk_at "mp1") => `(tactic| first
  | with_reducible refine w_seq ?_ | with_reducible refine w_nil ?_ | ((with_reducible apply w_var); · exact rfl) | ((with_reducible apply w_own); · exact rfl) | with_reducible refine w_lit ?_ | with_reducible refine w_gl ?_
  | with_reducible refine w_tup ?_ | with_reducible refine w_lst ?_ | with_reducible refine w_bin ?_ | with_reducible refine w_neg ?_ | with_reducible refine w_cmp ?_ | with_reducible refine w_and1 ?_ | with_reducible refine w_and ?_
  | with_reducible refine w_no ?_ | with_reducible refine w_tru ?_ | with_reducible refine w_ite ?_ | with_reducible refine w_idx ?_ | with_reducible refine w_slc ?_ | with_reducible refine w_o0 ?_ | with_reducible refine w_o1 ?_ | with_reducible refine w_call ?_
  | with_reducible refine w_pr ?_ | with_reducible refine w_isi ?_ | with_reducible refine w_es0 ?_ | with_reducible refine w_es1 ?_ | with_reducible refine w_if0 ?_ | with_reducible refine w_if1 ?_
  | with_reducible refine w_of ?_ | with_reducible refine w_rg1 ?_ | with_reducible refine w_rg2 ?_ | with_reducible refine w_set ?_ | with_reducible refine w_seto ?_ | with_reducible refine w_asg ?_ | with_reducible refine w_par2 ?_ | with_reducible refine w_par3 ?_
  | with_reducible refine w_app ?_ | with_reducible refine w_exp ?_ | with_reducible refine w_ret ?_ | ((with_reducible apply w_reto); · exact rfl) | with_reducible refine w_retn ?_ | with_reducible refine w_brk ?_ | with_reducible refine w_cnt ?_
  | with_reducible refine w_pass ?_ | ((with_reducible apply w_frz); · exact rfl) | with_reducible refine w_ifs ?_
  | with_reducible refine ob_add ?_ | with_reducible refine ob_sub ?_ | with_reducible refine ob_eqi ?_ | with_reducible refine ob_nei ?_ | with_reducible refine ob_lti ?_ | with_reducible refine ob_lei ?_ | with_reducible refine ob_gti ?_ | with_reducible refine ob_gei ?_
  | with_reducible refine ob_isb ?_ | with_reducible refine ob_nisb ?_ | with_reducible refine ob_lent ?_ | with_reducible refine ob_lenl ?_ | with_reducible refine ob_gcd ?_ | with_reducible refine ob_int ?_ | with_reducible refine ob_tupl ?_
  | with_reducible refine ob_lstt ?_ | with_reducible refine ob_lstl ?_ | with_reducible refine ob_trub ?_
  | ((with_reducible apply wlt); · exact of_decide_eq_true rfl) | ((with_reducible apply wlt2); · exact of_decide_eq_true rfl) | ((with_reducible apply wlt3); · exact of_decide_eq_true rfl) | ((with_reducible apply wmost); · exact of_decide_eq_true rfl)
  | ((with_reducible apply wlst); · exact rfl) | ((with_reducible apply wint); · exact rfl)
  | ((with_reducible apply wb); · exact rfl)
  | ((with_reducible apply ob_rfl); · exact rfl)
  | ((with_reducible apply ifp); · exact rfl) | ((with_reducible apply ifn); · exact fun e => Bool.noConfusion e))
local macro_rules | `(tactic| walk_at "mp") => `(tactic| repeat walk_at "mp1")
local macro_rules | `(tactic| walk_at "mp1") => `(tactic| first
  | with_reducible refine w_join ?_ | with_reducible refine w_lstr ?_ | with_reducible refine w_dget ?_ | with_reducible refine w_popl ?_ | with_reducible refine w_isi2 ?_ | with_reducible refine w_new ?_ | with_reducible refine w_appr ?_
  | with_reducible refine w_setir ?_ | with_reducible refine w_enumS ?_ | with_reducible refine ob_inc ?_ | with_reducible refine ob_ninc ?_ | with_reducible refine ob_isn ?_ | with_reducible refine ob_nisn ?_ | with_reducible refine ob_eqb ?_ | with_reducible refine ob_neb ?_
  | ((with_reducible apply ob_eqc); (focus assumption); (focus exact rfl)) | ((with_reducible apply ob_nec); (focus assumption); (focus exact rfl)))
abbrev sFlush : S := .ifs (.bop true (.cons (.cmp .In (.var 1) (.lit (.str [40, 41, 32]))) (.cons (.cmp .NotEq (.var 3) (.lit (.str []))) .nil))) (.cons (.appr (.idx (.var 2) (.neg (.lit (.int 1)))) (.call "value_of" (.cons (.var 3) .nil))) (.cons (.set 3 (.lit (.str []))) .nil)) .nil
abbrev sOpen : S := .ifs (.cmp .Eq (.var 1) (.lit (.str [40]))) (.cons (.appr (.var 2) (.new (.lst .nil))) .nil) .nil
abbrev sClose : S := .ifs (.cmp .Eq (.var 1) (.lit (.str [41]))) (.cons (.set 4 (.popl (.var 2))) (.cons (.appr (.idx (.var 2) (.neg (.lit (.int 1)))) (.pr .tuple (.cons (.var 4) .nil))) .nil)) .nil
abbrev sMore : S := .ifs (.cmp .NotIn (.var 1) (.lit (.str [40, 41, 32]))) (.cons (.set 3 (.bin .Add (.var 3) (.var 1))) .nil) .nil
theorem ob_ixr {h : Hh} {P : D → Prop} {n : Nat} {i : Int} {l : List D} {y : D} (e : h[n]? = some (.lst l)) (e2 : atI l i = some y) (q : P y) : Ob (idxD h (.ref n) (.int i)) P := .of (by
  have : idxD h (.ref n) (.int i) = (asL h (.ref n)).bind fun l => atI l i := rfl
  rw [this, show asL h (.ref n) = some l by simp only [asL, e]]
  exact e2) q
theorem ob_tupr {h : Hh} {P : D → Prop} {n : Nat} {l : List D} (e : h[n]? = some (.lst l)) (q : P (.tup l)) : Ob (prD h .tuple [.ref n]) P := .of (by
  have : prD h .tuple [.ref n] = (asL h (.ref n)).map .tup := rfl
  rw [this, show asL h (.ref n) = some l by simp only [asL, e]]
  rfl) q
@[reducible] def rEnv (s : List Nat) (c : Nat) (n : Nat) (w : List Nat) (x : Slot) : Env := [.v (.str s), .v (.str [c]), .v (.ref n), .v (.str w), x]
theorem cw_ne {w : List Nat} {d : D} (cw : CW w d) : w ≠ [] := by
  cases cw with
  | dot => simp
  | letr _ hn _ => exact hn
  | num neg f cf _ _ => exact fun z => cf.2.1 (List.append_eq_nil_iff.mp z).2
theorem cw_cod {w : List Nat} {d : D} (cw : CW w d) : Cod w := by
  intro c hc
  have := ascii_val (cw.val 0).1 c (by rw [(cw.val 0).2]; exact hc)
  omega
section
variable {n : Nat} {h h1 : Hh} {s w : List Nat} {c i : Nat} {ix : List Nat} {r : List D} {S : List (List D)} {x : Slot} {QF : Fl → Hh → Prop}
theorem flush_w (hs : HS h h1 (i :: ix) (r :: S)) (hc : c < 128) (hw : Cod w) (hl : w.length ≤ 100000) (hr : r.length < 100000) (hcw : c ∈ [40, 41, 32] → w = [] ∨ ∃ d, CW w d)
    (q1 : c ∉ [40, 41, 32] → QF (.nx (rEnv s c (h.length + 1) w x)) h1)
    (q2 : c ∈ [40, 41, 32] → ∀ r2 h2, HS h h2 (i :: ix) (r2 :: S) → ((w = [] ∧ r2 = r) ∨ ∃ d, CW w d ∧ r2 = r ++ [d]) → QF (.nx (rEnv s c (h.length + 1) [] x)) h2) :
    W (evS ⟨run Pg fu (n + 2), fu⟩ sFlush (rEnv s c (h.length + 1) w x) h1) QF := by
  walk_at "mp"
  by_cases h1' : c ∈ [40, 41, 32]
  · have e : decide (c ∈ [40, 41, 32]) = true := decide_eq_true h1'
    simp only [e, if_true]
    walk_at "mp"
    refine ob_nes hw (by unfold Cod; simp) ?_
    walk_at "mp"
    by_cases hn : w = []
    · subst hn
      simp only [decide_true, Bool.not_true, Bool.false_eq_true, if_false]
      walk_at "mp"
      exact q2 h1' r h1 hs (.inl ⟨rfl, rfl⟩)
    · have e : decide (w = []) = false := decide_eq_false hn
      simp only [e, Bool.not_false, if_true]
      obtain ⟨d, cw⟩ := (hcw h1').resolve_left hn
      walk_at "mp"
      refine ob_ixr hs.rows hs.last ?_
      walk_at "mp"
      refine (vo_w cw hl).imp ?_
      rintro _ _ ⟨rfl, rfl⟩
      refine ⟨_, r, rfl, hs.top, Nat.lt_of_lt_of_le hr (by decide), ?_⟩
      walk_at "mp"
      exact q2 h1' _ _ (hs.put _) (.inr ⟨_, cw, rfl⟩)
  · have e : decide (c ∈ [40, 41, 32]) = false := decide_eq_false h1'
    simp only [e, Bool.false_eq_true, if_false]
    walk_at "mp"
    exact q1 h1'
theorem last_get {h h1 : Hh} {i : Nat} {ix : List Nat} {r : List D} {S : List (List D)} (_ : HS h h1 (i :: ix) (r :: S)) :
    (((i :: ix).reverse).map fun i => D.ref (h.length + i))[(((i :: ix).reverse).map fun i => D.ref (h.length + i)).length - 1]? = some (D.ref (h.length + i)) := by
  rw [List.reverse_cons, List.map_append]
  simp
theorem open_w (hc : c < 1114112) (hs : HS h h1 (i :: ix) S) (hl : ix.length < 100000) (q1 : c ≠ 40 → QF (.nx (rEnv s c (h.length + 1) w x)) h1) (q2 : c = 40 → ∀ k h2, HS h h2 (k :: i :: ix) ([] :: S) → QF (.nx (rEnv s c (h.length + 1) w x)) h2) :
    W (evS ⟨run Pg fu (n + 2), fu⟩ sOpen (rEnv s c (h.length + 1) w x) h1) QF := by
  walk_at "mp"
  by_cases e : c = 40
  · have e' : decide (c = 40) = true := decide_eq_true e
    simp only [e', if_true]
    walk_at "mp"
    obtain ⟨k, hk, h2⟩ := hs.push
    refine ⟨_, (i :: ix).reverse.map (fun i => D.ref (h.length + i)), rfl, ?_, ?_, ?_⟩
    · rw [List.getElem?_append_left (lt_of_get hs.rows)]; exact hs.rows
    · simp; exact Nat.lt_of_lt_of_le (by omega) (by decide : 100001 ≤ most)
    walk_at "mp"
    exact q2 e k _ h2
  · have e' : decide (c = 40) = false := decide_eq_false e
    simp only [e', Bool.false_eq_true, if_false]
    walk_at "mp"
    exact q1 e
theorem close_w (hc : c < 1114112) (hs : HS h h1 (i :: ix) (r :: S)) (hS : c = 41 → ∃ r1 o2, S = r1 :: o2 ∧ r1.length < 100000) (q1 : c ≠ 41 → QF (.nx (rEnv s c (h.length + 1) w x)) h1)
    (q2 : c = 41 → ∀ r1 o2 i2 ix2 h2 x', S = r1 :: o2 → HS h h2 (i2 :: ix2) ((r1 ++ [.tup r]) :: o2) → QF (.nx (rEnv s c (h.length + 1) w x')) h2) :
    W (evS ⟨run Pg fu (n + 2), fu⟩ sClose (rEnv s c (h.length + 1) w x) h1) QF := by
  walk_at "mp"
  by_cases e : c = 41
  · have e' : decide (c = 41) = true := decide_eq_true e
    simp only [e', if_true]
    obtain ⟨r1, o2, rfl, hr1⟩ := hS e
    walk_at "mp"
    refine ⟨_, _, _, rfl, hs.rows, last_get hs, ?_⟩
    obtain ⟨p1, p2⟩ := hs.pop
    obtain ⟨i2, ix2, rfl⟩ : ∃ i2 ix2, ix = i2 :: ix2 := by
      cases p1.at' with
      | cons _ _ => exact ⟨_, _, rfl⟩
    walk_at "mp"
    refine ob_ixr p1.rows p1.last ?_
    walk_at "mp"
    refine ob_tupr p2 ?_
    refine ⟨_, r1, rfl, p1.top, Nat.lt_of_lt_of_le hr1 (by decide), ?_⟩
    walk_at "mp"
    exact q2 e r1 o2 i2 ix2 _ _ rfl (p1.put _)
  · have e' : decide (c = 41) = false := decide_eq_false e
    simp only [e', Bool.false_eq_true, if_false]
    walk_at "mp"
    exact q1 e
theorem more_w (hl : w.length ≤ 100000) (q1 : c ∈ [40, 41, 32] → QF (.nx (rEnv s c (h.length + 1) w x)) h1) (q2 : c ∉ [40, 41, 32] → QF (.nx (rEnv s c (h.length + 1) (w ++ [c]) x)) h1) :
    W (evS ⟨run Pg fu (n + 2), fu⟩ sMore (rEnv s c (h.length + 1) w x) h1) QF := by
  walk_at "mp"
  by_cases e : c ∈ [40, 41, 32]
  · have e' : decide (c ∈ [40, 41, 32]) = true := decide_eq_true e
    simp only [e', Bool.not_true, Bool.false_eq_true, if_false]
    walk_at "mp"
    exact q1 e
  · have e' : decide (c ∈ [40, 41, 32]) = false := decide_eq_false e
    simp only [e', Bool.not_false, if_true]
    walk_at "mp"
    refine ob_strs (Nat.le_trans (by simp; omega) (by decide : 100001 ≤ most)) ?_
    walk_at "mp"
    exact q2 e
end
theorem hs_start (h : Hh) : HS h ((h ++ [.lst []]) ++ [.lst [.ref h.length]]) [0] [[]] where
  ex := ⟨[.lst [], .lst [.ref h.length]], by rw [List.append_assoc]; rfl⟩
  rows := by rw [List.getElem?_append_right (by simp)]; simp
  nd := by simp
  n1 := by simp
  at' := .cons (by rw [List.getElem?_append_left (by simp)]; simp) .nil
theorem f2_len {α β : Type} {R : α → β → Prop} {l : List α} {m : List β} (f : F2 R l m) : l.length = m.length := by
  induction f with
  | nil => rfl
  | cons _ _ ih => simp [ih]
theorem pi_sub {q : Q} {dep : Int} {rr : Nat} {r : List D} {outer : List (List D)} {w p : List Nat} (i : PI q dep rr r outer w p) : ∃ x, p = x ++ w := by
  have e := i.txt
  unfold cur at e
  split at e
  · rename_i z
    exact ⟨p, by rw [z.2, List.append_nil]⟩
  · exact ⟨opnT outer ++ fl r, by rw [e, List.append_assoc]⟩
theorem pi_ne {q : Q} {dep : Int} {rr : Nat} {r : List D} {outer : List (List D)} {w p : List Nat} (i : PI q dep rr r outer w p) (hq : q ≠ .start) : p ≠ [] := by
  intro hp
  obtain ⟨x, hx⟩ := pi_sub i
  have hw : w = [] := (List.append_eq_nil_iff.mp (hx.symm.trans hp)).2
  have ht := i.txt
  rw [hp] at ht
  have ht2 := List.append_eq_nil_iff.mp ht.symm
  have ho : outer ≠ [] → False := fun z => by
    cases outer with
    | nil => exact z rfl
    | cons a o =>
      have := ht2.1
      unfold opnT at this
      simp at this
  cases q with
  | start => exact hq rfl
  | opn => exact ho (i.inn (.inl rfl))
  | gap => exact ho (i.inn (.inr rfl))
  | minus => have : w = [45] := i.word; rw [hw] at this; cases this
  | nought => have : w = [48] := i.word; rw [hw] at this; cases this
  | word => exact i.word.1 hw
  | number =>
    obtain ⟨neg, f, e, h1, h2, h3, h4⟩ := i.word
    rw [hw] at e
    exact h2 (List.append_eq_nil_iff.mp e.symm).2
  | endd =>
    have hr := i.some rfl hw
    have := ht2.2
    unfold cur at this
    rw [if_pos ⟨rfl, hw⟩] at this
    cases r with
    | nil => exact hr rfl
    | cons a r =>
      obtain ⟨c, r', e, _⟩ := head_txt (i.vals.1 a (by simp))
      rw [joinS_cons, e] at this
      cases this
theorem rv_ok {n : Nat} {h : Hh} {s : List Nat} (tx : Tx s) (e : FW .start 0 0 s = none) :
    W (run Pg fu (n + 3) "read_value" [.str s] h) (fun d h' => ∃ v t, d = .tup [v] ∧ h' = h ++ t ∧ Val 6 v ∧ txt v = s) := by
  have hl := tx.len
  refine w_run i_rv rfl ?_
  walk_at "mp"
  refine (fw_w (n := n) tx.cod (by omega)).imp ?_
  rintro _ h ⟨rfl, rfl⟩
  rw [e]
  walk_at "mp"
  refine w_for ?_
  walk_at "mp"
  refine ob_strs (lt_most (by simp; omega)) ?_
  refine .of rfl ?_
  refine ⟨fun items env h1 => (∃ q dep rr r outer w p rest i ix x1 x4, s = p ++ rest ∧ items = ((rest ++ [32]).map fun z => D.str [z]) ∧ env = [.v (.str s), x1, .v (.ref (h.length + 1)), .v (.str w), x4] ∧ FW q dep p.length rest = none ∧ PI q dep rr r outer w p ∧ HS h h1 (i :: ix) (r :: outer) ∧ Stay 6 dep rest ∧ Runs 60 rr rest)
      ∨ (items = [] ∧ ∃ i v x1 x3 x4, env = [.v (.str s), x1, .v (.ref (h.length + 1)), x3, x4] ∧ HS h h1 [i] [[v]] ∧ Val 6 v ∧ txt v = s), .inl ⟨.start, 0, 0, [], [], [], [], s, 0, [], .un, .un, rfl, rfl, ?_, e, pi_start 0, hs_start h, tx.stay, tx.runs⟩, ?_, ?_⟩
  · rw [List.length_append]; rfl
  · rintro d items env h1 (⟨q, dep, rr, r, outer, w, p, rest, i, ix, x1, x4, e0, e1, rfl, e2, pI, hs, st, rn⟩ | ⟨z, _⟩)
    · obtain ⟨px, hpx⟩ := pi_sub pI
      have hps : p.length ≤ 3000 := by have := congrArg List.length e0; rw [List.length_append] at this; omega
      have hwl : w.length ≤ 3000 := by have := congrArg List.length hpx; rw [List.length_append] at this; omega
      have hwc : Cod w := fun z hz => by have := tx.cod z (by rw [e0, hpx]; simp [hz]); omega
      have hrl : r.length < 100000 := by have := pI.l1 r (by simp); omega
      have hol : outer.length < 100000 := by have := pI.l2; omega
      have hol6 : outer.length ≤ 6 := by have := stay_here st; have := pI.dep; omega
      have hrr := runs_here rn
      have hix : ix.length = outer.length := by
        cases hs.at' with
        | cons _ f => exact f2_len f
      have wcw : fin q → w = [] ∨ ∃ d, CW w d := fun hf => by
        by_cases hw : w = []
        · exact .inl hw
        · exact .inr (wo_cw pI.word hf hrr hw)
      cases rest with
      | nil =>
        simp only [List.nil_append, List.map_cons, List.map_nil] at e1
        injection e1 with e5 e6
        subst e5 e6
        refine .of rfl ?_
        rw [FW] at e2
        have hdf : dep = 0 ∧ fin q := by
          by_cases z : dep = 0 ∧ fin q
          · exact z
          · rw [if_neg z] at e2; cases e2
        obtain ⟨rfl, hf⟩ := hdf
        refine w_seq (flush_w (n := n) hs (by decide) hwc (by omega) hrl (fun _ => wcw hf) (fun z => absurd (by simp) z) fun _ r2 h2 hs2 hr2 => ?_)
        refine w_seq (open_w (by decide) hs2 (by omega) (fun _ => ?_) fun z => absurd z (by decide))
        refine w_seq (close_w (by decide) hs2 (fun z => absurd z (by decide)) (fun _ => ?_) fun z => absurd z (by decide))
        refine w_seq (more_w (by simp) (fun _ => ?_) fun z => absurd (by simp) z)
        refine w_nil ?_
        obtain ⟨rfl, v, rfl, v1, v2⟩ := pI.fin hf hr2
        have : ix = [] := List.eq_nil_of_length_eq_zero (by rw [hix]; rfl)
        subst this
        rw [List.append_nil] at e0
        exact .inr ⟨rfl, i, v, _, _, _, rfl, hs2, v2, by rw [v1, e0]⟩
      | cons c rest =>
        simp only [List.cons_append, List.map_cons] at e1
        injection e1 with e5 e6
        subst e5 e6
        refine .of rfl ?_
        have hc : c < 128 := tx.cod c (by rw [e0]; simp)
        have hc' : c < 1114112 := by omega
        rw [FW] at e2
        cases eN : NS q c with
        | none => rw [eN] at e2; cases e2
        | some q' =>
          rw [eN] at e2
          simp only at e2
          have nb : ¬ bad dep p.length q' c := fun z => by rw [if_pos z] at e2; cases e2
          rw [if_neg nb] at e2
          have e2' : FW q' (dep + dgo c) (p ++ [c]).length rest = none := by rw [List.length_append]; exact e2
          have es : s = (p ++ [c]) ++ rest := by rw [e0]; simp
          have st' := st.2
          have rn' := rn.2
          by_cases h40 : c = 40
          · subst h40
            have hq : st3 q := by
              rw [ns_40] at eN
              by_cases z : st3 q
              · exact z
              · rw [if_neg z] at eN; cases eN
            have hq' : q' = .opn := by rw [ns_40, if_pos hq] at eN; exact (Option.some.inj eN).symm
            subst hq'
            have hw0 := wo_st3 pI.word hq
            refine w_seq (flush_w (n := n) hs hc hwc (by omega) hrl (fun _ => .inl hw0) (fun z => absurd (by simp) z) fun _ r2 h2 hs2 hr2 => ?_)
            have : r2 = r := by
              rcases hr2 with ⟨_, z⟩ | ⟨d, cw, _⟩
              · exact z
              · exact absurd hw0 (cw_ne cw)
            subst this
            refine w_seq (open_w hc' hs2 (by omega) (fun z => absurd rfl z) fun _ k h3 hs3 => ?_)
            refine w_seq (close_w hc' hs3 (fun z => absurd z (by decide)) (fun _ => ?_) fun z => absurd z (by decide))
            refine w_seq (more_w (by simp) (fun _ => ?_) fun z => absurd (by simp) z)
            refine w_nil ?_
            exact .inl ⟨.opn, dep + dgo 40, 0, [], r2 :: outer, [], p ++ [40], rest, k, i :: ix, _, _, es, rfl, rfl, e2', pI.open hq, hs3, st', by simpa using rn'⟩
          by_cases h41 : c = 41
          · subst h41
            have hq : fin q ∨ q = .opn := by
              rw [ns_41] at eN
              by_cases z : fin q ∨ q = .opn
              · exact z
              · rw [if_neg z] at eN; cases eN
            have hq' : q' = .endd := by rw [ns_41, if_pos hq] at eN; exact (Option.some.inj eN).symm
            subst hq'
            have hs0 : q ≠ .start := fun z => by subst z; simp [fin] at hq
            have hpos : 0 < p.length := List.length_pos_iff.mpr (pi_ne pI hs0)
            have hd : dep ≠ 0 := fun z => nb ⟨z, hpos, .inr rfl⟩
            obtain ⟨r1, o2, rfl⟩ : ∃ r1 o2, outer = r1 :: o2 := by
              cases outer with
              | nil => exact absurd pI.dep hd
              | cons a o => exact ⟨a, o, rfl⟩
            have hcw : w = [] ∨ ∃ d, CW w d := hq.elim wcw fun z => by subst z; exact .inl pI.word
            refine w_seq (flush_w (n := n) hs hc hwc (by omega) hrl (fun _ => hcw) (fun z => absurd (by simp) z) fun _ r2 h2 hs2 hr2 => ?_)
            refine w_seq (open_w hc' hs2 (by omega) (fun _ => ?_) fun z => absurd z (by decide))
            refine w_seq (close_w hc' hs2 (fun _ => ⟨r1, o2, rfl, by have := pI.l1 r1 (by simp); omega⟩) (fun z => absurd rfl z) fun _ r1' o2' i2 ix2 h3 x' eo hs3 => ?_)
            injection eo with eo1 eo2
            subst eo1 eo2
            refine w_seq (more_w (by simp) (fun _ => ?_) fun z => absurd (by simp) z)
            refine w_nil ?_
            exact .inl ⟨.endd, dep + dgo 41, 0, _, o2, [], p ++ [41], rest, i2, ix2, _, _, es, rfl, rfl, e2', pI.close hq (by simpa using hol6) hr2, hs3, st', by simpa using rn'⟩
          by_cases h32 : c = 32
          · subst h32
            have hq : fin q := by
              rw [ns_32] at eN
              by_cases z : fin q
              · exact z
              · rw [if_neg z] at eN; cases eN
            have hq' : q' = .gap := by rw [ns_32, if_pos hq] at eN; exact (Option.some.inj eN).symm
            subst hq'
            have hs0 : q ≠ .start := fun z => by subst z; simp [fin] at hq
            have hpos : 0 < p.length := List.length_pos_iff.mpr (pi_ne pI hs0)
            have hd : dep ≠ 0 := fun z => nb ⟨z, hpos, .inl rfl⟩
            have ho : outer ≠ [] := fun z => by subst z; exact hd pI.dep
            refine w_seq (flush_w (n := n) hs hc hwc (by omega) hrl (fun _ => wcw hq) (fun z => absurd (by simp) z) fun _ r2 h2 hs2 hr2 => ?_)
            refine w_seq (open_w hc' hs2 (by omega) (fun _ => ?_) fun z => absurd z (by decide))
            refine w_seq (close_w hc' hs2 (fun z => absurd z (by decide)) (fun _ => ?_) fun z => absurd z (by decide))
            refine w_seq (more_w (by simp) (fun _ => ?_) fun z => absurd (by simp) z)
            refine w_nil ?_
            exact .inl ⟨.gap, dep + dgo 32, 0, r2, outer, [], p ++ [32], rest, i, ix, _, _, es, rfl, rfl, e2', pI.blank hq ho hol6 hr2, hs2, st', by simpa using rn'⟩
          · have hn : c ∉ [40, 41, 32] := by simp [h40, h41, h32]
            refine w_seq (flush_w (n := n) hs hc hwc (by omega) hrl (fun z => absurd z hn) (fun _ => ?_) fun z => absurd z hn)
            refine w_seq (open_w hc' hs (by omega) (fun _ => ?_) fun z => absurd z h40)
            refine w_seq (close_w hc' hs (fun z => absurd z h41) (fun _ => ?_) fun z => absurd z h41)
            refine w_seq (more_w (by omega) (fun z => absurd z hn) fun _ => ?_)
            refine w_nil ?_
            exact .inl ⟨q', dep + dgo c, _, r, outer, w ++ [c], p ++ [c], rest, i, ix, _, _, es, rfl, rfl, e2', pI.next eN hn, hs, st', rn'⟩
    · cases z
  · rintro env h1 (⟨q, dep, rr, r, outer, w, p, rest, i, ix, x1, x4, e0, e1, rfl, e2, pI, hs, st, rn⟩ | ⟨_, i, v, x1, x3, x4, rfl, hs, v1, v2⟩)
    · simp at e1
    · walk_at "mp"
      refine ob_ixr hs.rows (y := .ref (h.length + i)) rfl ?_
      walk_at "mp"
      refine ob_ixr hs.top (y := v) rfl ?_
      walk_at "mp"
      obtain ⟨t, ht⟩ := hs.ex
      exact ⟨v, t, rfl, ht, v1, v2⟩
theorem rv_no {n k : Nat} {h : Hh} {s : List Nat} (hs : Ascii s) (hl : s.length ≤ 100000) (e : FW .start 0 0 s = some k) : W (run Pg fu (n + 3) "read_value" [.str s] h) (Is .non h) := by
  refine w_run i_rv rfl ?_
  walk_at "mp"
  refine (fw_w (n := n) hs hl).imp ?_
  rintro _ h ⟨rfl, rfl⟩
  rw [e]
  walk_at "mp"
  exact ⟨rfl, rfl⟩
end MP.k75

set_option exponentiation.threshold 100000
namespace MP.k75
open PySem
open PySem.Spec
open PyProof.Rows
open L2
open MP
open NumText TL
local macro_rules | `(tactic| walk_at "mp1") => `(tactic| first
  | with_reducible refine w_seq ?_ | with_reducible refine w_nil ?_ | ((with_reducible apply w_var); · exact rfl) | ((with_reducible apply w_own); · exact rfl) | with_reducible refine w_lit ?_ | with_reducible refine w_gl ?_
  | with_reducible refine w_tup ?_ | with_reducible refine w_lst ?_ | with_reducible refine w_bin ?_ | with_reducible refine w_neg ?_ | with_reducible refine w_cmp ?_ | with_reducible refine w_and1 ?_ | with_reducible refine w_and ?_
  | with_reducible refine w_no ?_ | with_reducible refine w_tru ?_ | with_reducible refine w_ite ?_ | with_reducible refine w_idx ?_ | with_reducible refine w_slc ?_ | with_reducible refine w_o0 ?_ | with_reducible refine w_o1 ?_ | with_reducible refine w_call ?_
  | with_reducible refine w_pr ?_ | with_reducible refine w_isi ?_ | with_reducible refine w_es0 ?_ | with_reducible refine w_es1 ?_ | with_reducible refine w_if0 ?_ | with_reducible refine w_if1 ?_
  | with_reducible refine w_of ?_ | with_reducible refine w_rg1 ?_ | with_reducible refine w_rg2 ?_ | with_reducible refine w_set ?_ | with_reducible refine w_seto ?_ | with_reducible refine w_asg ?_ | with_reducible refine w_par2 ?_ | with_reducible refine w_par3 ?_
  | with_reducible refine w_app ?_ | with_reducible refine w_exp ?_ | with_reducible refine w_ret ?_ | ((with_reducible apply w_reto); · exact rfl) | with_reducible refine w_retn ?_ | with_reducible refine w_brk ?_ | with_reducible refine w_cnt ?_
  | with_reducible refine w_pass ?_ | ((with_reducible apply w_frz); · exact rfl) | with_reducible refine w_ifs ?_
  | with_reducible refine ob_add ?_ | with_reducible refine ob_sub ?_ | with_reducible refine ob_eqi ?_ | with_reducible refine ob_nei ?_ | with_reducible refine ob_lti ?_ | with_reducible refine ob_lei ?_ | with_reducible refine ob_gti ?_ | with_reducible refine ob_gei ?_
  | with_reducible refine ob_isb ?_ | with_reducible refine ob_nisb ?_ | with_reducible refine ob_lent ?_ | with_reducible refine ob_lenl ?_ | with_reducible refine ob_gcd ?_ | with_reducible refine ob_int ?_ | with_reducible refine ob_tupl ?_
  | with_reducible refine ob_lstt ?_ | with_reducible refine ob_lstl ?_ | with_reducible refine ob_trub ?_
  | ((with_reducible apply wlt); · exact of_decide_eq_true rfl) | ((with_reducible apply wlt2); · exact of_decide_eq_true rfl) | ((with_reducible apply wlt3); · exact of_decide_eq_true rfl) | ((with_reducible apply wmost); · exact of_decide_eq_true rfl)
  | ((with_reducible apply wlst); · exact rfl) | ((with_reducible apply wint); · exact rfl)
  | ((with_reducible apply wb); · exact rfl)
  | ((with_reducible apply ob_rfl); · exact rfl)
  | ((with_reducible apply ifp); · exact rfl) | ((with_reducible apply ifn); · exact fun e => Bool.noConfusion e))
local macro_rules | `(tactic| walk_at "mp") => `(tactic| repeat walk_at "mp1")
local macro_rules | `(tactic| walk_at "mp1") => `(tactic| first
  | with_reducible refine w_join ?_ | with_reducible refine w_lstr ?_ | with_reducible refine w_dget ?_ | with_reducible refine w_popl ?_ | with_reducible refine w_isi2 ?_ | with_reducible refine w_new ?_ | with_reducible refine w_appr ?_
  | with_reducible refine w_setir ?_ | with_reducible refine w_enumS ?_ | with_reducible refine ob_inc ?_ | with_reducible refine ob_ninc ?_ | with_reducible refine ob_isn ?_ | with_reducible refine ob_nisn ?_ | with_reducible refine ob_eqb ?_ | with_reducible refine ob_neb ?_
  | ((with_reducible apply ob_eqc); (focus assumption); (focus exact rfl)) | ((with_reducible apply ob_nec); (focus assumption); (focus exact rfl)))
abbrev rNeg : S := .ifs (.cmp .Lt (.var 2) (.lit (.int 0))) (.cons (.set 2 (.bin .Sub (.lit (.int 1)) (.bin .Mult (.lit (.int 2)) (.var 2)))) .nil) .nil
abbrev rBig : S := .ifs (.bop true (.cons (.cmp .GtE (.var 2) (.bin .Pow (.lit (.int 10)) (.lit (.int 18)))) (.cons (.cmp .Lt (.var 1) (.pr .len (.cons (.var 0) .nil))) .nil))) (.cons (.ret (.var 2)) .nil) .nil
abbrev rRet : S := .ret (.bin .Mod (.pr .int (.cons (.bin .Add (.bin .Mult (.pr .int (.cons (.bin .Add (.bin .Add (.bin .Mult (.var 2) (.lit (.int 48271))) (.bin .Mult (.var 1) (.lit (.int 69621)))) (.lit (.int 12345))) .nil)) (.lit (.int 40692))) (.lit (.int 7))) .nil)) (.lit (.int 2147483399)))
/-! ### the draws -/
def St (b : Nat) (h : Hh) : Prop := ∃ (k : Nat) (v : Int), h[0]? = some (.lst [.int (k : Nat), .int v]) ∧ k ≤ b
theorem St.mono {b c : Nat} {h : Hh} (s : St b h) (hb : b ≤ c) : St c h := let ⟨k, v, e, hk⟩ := s; ⟨k, v, e, Nat.le_trans hk hb⟩
theorem St.app {b : Nat} {h t : Hh} (s : St b h) : St b (h ++ t) := by
  obtain ⟨k, v, e, hk⟩ := s
  exact ⟨k, v, by rw [List.getElem?_append_left (by exact (List.getElem?_eq_some_iff.mp e).1)]; exact e, hk⟩
/-- the script -/
structure Sc (ns : List Int) : Prop where
  len : ns.length ≤ 63
  bd : ∀ z ∈ ns, Bd 1048576 z
@[reducible] def Sd (ns : List Int) : D := .lst (ns.map .int)
theorem tail_w {n : Nat} {h : Hh} {ns : List Int} (sc : Sc ns) {k : Nat} (hk : k ≤ 100000) {cell : Int} (hc : Bd 1048580 cell) :
    W (evSs ⟨run Pg fu n, fu⟩ (.cons rBig (.cons rRet .nil)) [.v (Sd ns), .v (.int (k : Nat)), .v (.int cell)] h) (endF fun d h' => h' = h ∧ ∃ v, d = .int v) := by
  have hkb : Bd 20 ((k : Nat) : Int) := bd_nat (by omega)
  have ret : W (evSs ⟨run Pg fu n, fu⟩ (.cons rRet .nil) [.v (Sd ns), .v (.int (k : Nat)), .v (.int cell)] h) (endF fun d h' => h' = h ∧ ∃ v, d = .int v) := by
    walk_at "mp"
    refine ob_mulB hc (show Bd 20 48271 by unfold Bd; decide) (by decide) ?_
    walk_at "mp"
    refine ob_mulB hkb (show Bd 20 69621 by unfold Bd; decide) (by decide) ?_
    walk_at "mp"
    have b1 : Bd 1048601 (cell * 48271) := (hc.mul (show Bd 20 48271 by unfold Bd; decide)).mono (by decide)
    have b2 : Bd 1048601 (((k : Nat) : Int) * 69621) := (hkb.mul (show Bd 20 69621 by unfold Bd; decide)).mono (by decide)
    have b3 := b1.add b2
    have b4 := b3.add (show Bd 1048602 12345 from (show Bd 20 12345 by unfold Bd; decide).mono (by decide))
    refine ob_mulB b4 (show Bd 20 40692 by unfold Bd; decide) (by decide) ?_
    walk_at "mp"
    exact ⟨rfl, _, rfl⟩
  walk_at "mp"
  by_cases h1 : (10 : Int) ^ Int.toNat 18 ≤ cell
  · simp only [h1, decide_true, if_true]
    walk_at "mp"
    by_cases h2 : ((k : Nat) : Int) < ((ns.map MP.D.int).length : Nat)
    · simp only [h2, decide_true, if_true]
      walk_at "mp"
      exact ⟨rfl, _, rfl⟩
    · simp only [h2, decide_false, Bool.false_eq_true, if_false]
      exact w_nil ret
  · simp only [h1, decide_false, Bool.false_eq_true, if_false]
    refine wb rfl ?_
    simp only
                                                                [Bool.false_eq_true, if_false]
    exact w_nil ret
theorem one_bd (p : Nat) (h : 1 ≤ p) : Bd p 1 := Bd.mono (p := 1) (by unfold Bd; decide) h
theorem zero_bd (p : Nat) : Bd p 0 := Bd.mono (p := 0) (by unfold Bd; decide) (Nat.zero_le p)
theorem neg_w {n : Nat} {h : Hh} {ns : List Int} (sc : Sc ns) {k : Nat} (hk : k ≤ 100000) {cell : Int} (hc : Bd 1048576 cell) :
    W (evSs ⟨run Pg fu n, fu⟩ (.cons rNeg (.cons rBig (.cons rRet .nil))) [.v (Sd ns), .v (.int (k : Nat)), .v (.int cell)] h) (endF fun d h' => h' = h ∧ ∃ v, d = .int v) := by
  walk_at "mp"
  by_cases h1 : cell < 0
  · simp only [h1, decide_true, if_true]
    walk_at "mp"
    have b2 : Bd 2 2 := by unfold Bd; decide
    refine ob_mulB b2 hc (by decide) ?_
    refine ob_sub (wlt (of_decide_eq_true rfl) ?_)
    have b3 := Bd.sub (one_bd (2 + 1048576) (by decide)) (b2.mul hc)
    exact w_nil (tail_w sc hk (b3.mono (by decide)))
  · simp only [h1, decide_false, Bool.false_eq_true, if_false]
    exact w_nil (tail_w sc hk (hc.mono (by decide)))
theorem refill_w {n : Nat} {h : Hh} {ns : List Int} (sc : Sc ns) {k : Nat} (hk : k ≤ 100000) : W (run Pg fu (n + 1) "_law_refill" [Sd ns, .int (k : Nat)] h) (fun d h' => h' = h ∧ ∃ v, d = .int v) := by
  refine w_run i_refill rfl ?_
  refine w_seq (w_set (w_lit (wlt (of_decide_eq_true rfl) ?_)))
  refine w_seq (w_ifs (w_tru (w_var rfl ?_)))
  cases ns with
  | nil => 
    refine .of (show truD h (Sd []) = some false from rfl) (wb rfl ?_)
    simp only
                                                                [Bool.false_eq_true, if_false]
    refine w_nil ?_
    exact neg_w sc hk (zero_bd _)
  | cons z r =>
    refine .of (show truD h (Sd (z :: r)) = some true from rfl) (wb rfl ?_)
    simp only [if_true]
    have ne : (((z :: r : List Int).map MP.D.int).length : Int) ≠ 0 := by simp; omega
    obtain ⟨g0, g1⟩ := fmod_range (a := ((k : Nat) : Int)) (b := (((z :: r : List Int).map MP.D.int).length : Int)) (by simp <;> omega)
    walk_at "mp"
    obtain ⟨y, hy, hm⟩ : ∃ y, atI ((z :: r).map MP.D.int) (((k : Nat) : Int).fmod (((z :: r : List Int).map MP.D.int).length : Int)) = some (.int y) ∧ y ∈ z :: r := by
      rw [at_nat g0]
      have hlt : (((k : Nat) : Int).fmod (((z :: r : List Int).map MP.D.int).length : Int)).toNat < ((z :: r).map MP.D.int).length := by omega
      rw [List.getElem?_eq_getElem hlt]
      obtain ⟨y, hy, e⟩ := List.mem_map.mp (List.getElem_mem hlt)
      exact ⟨y, by rw [e], hy⟩
    refine ob_ixl hy (wlt (of_decide_eq_true rfl) ?_)
    refine w_nil ?_
    exact neg_w sc hk (sc.bd y hm)
theorem draw_w {n : Nat} {h : Hh} {ns : List Int} (sc : Sc ns) {b : Nat} {size : Int} (hb : b < 100000) (h0 : 0 < size) (h1 : Bd 9000 size) (st : St b h) :
    W (run Pg fu (n + 2) "_law_draw" [.ref 0, Sd ns, .int size] h) (fun d h' => ∃ v, d = .int v ∧ 0 ≤ v ∧ v < size ∧ St (b + 1) h') := by
  obtain ⟨k, v, e, hk⟩ := st
  have hne : size ≠ 0 := by omega
  refine w_run i_draw rfl ?_
  have fin : ∀ (k : Nat) (v : Int) (h : Hh), h[0]? = some (.lst [.int (k : Nat), .int v]) → k ≤ b + 1 → W (evSs ⟨run Pg fu (n + 1), fu⟩ (.cons (.set 3 (.bin .Mod (.pr .int (.cons (.idx (.var 0) (.lit (.int 1))) .nil)) (.var 2))) (.cons (.setir (.var 0) (.lit (.int 1)) (.bin .FloorDiv (.idx (.var 0) (.lit (.int 1))) (.var 2))) (.cons (.ret (.var 3)) .nil)))
      [.v (.ref 0), .v (Sd ns), .v (.int size), .un] h) (endF fun d h' => ∃ v, d = .int v ∧ 0 ≤ v ∧ v < size ∧ St (b + 1) h') := fun k v h e hk => by
    walk_at "mp"
    refine ob_ixr e (y := .int v) rfl ?_
    walk_at "mp"
    refine ob_mod hne ?_
    walk_at "mp"
    refine ob_ixr e (y := .int v) rfl ?_
    walk_at "mp"
    refine ob_div hne h1 ?_
    walk_at "mp"
    obtain ⟨g0, g1⟩ := fmod_range (a := v) (b := size) h0
    refine ⟨0, 1, _, 1, rfl, rfl, e, rfl, ?_⟩
    walk_at "mp"
    exact ⟨g0, g1, k, _, get_set_self e, hk⟩
  walk_at "mp"
  refine ob_ixr e (y := .int v) rfl ?_
  walk_at "mp"
  by_cases hv : v = 0
  · simp only [hv, decide_true, if_true]
    subst hv
    walk_at "mp"
    refine ob_ixr e (y := .int (k : Nat)) rfl ?_
    walk_at "mp"
    refine (refill_w (n := n) sc (by omega)).imp ?_
    rintro _ _ ⟨rfl, v', rfl⟩
    walk_at "mp"
    refine ⟨0, 1, _, 1, rfl, rfl, e, rfl, ?_⟩
    walk_at "mp"
    refine ob_ixr (get_set_self e) (y := .int (k : Nat)) rfl ?_
    walk_at "mp"
    refine ⟨0, 0, _, 0, rfl, rfl, get_set_self e, rfl, ?_⟩
    refine w_nil ?_
    exact fin (k + 1) v' _ (get_set_self (get_set_self e)) (by omega)
  · simp only [hv, decide_false, Bool.false_eq_true, if_false]
    refine w_nil ?_
    exact fin k v _ e (by omega)

/-! ### the law's values -/
def cn : Nat → Nat
  | 0 => 5
  | n + 1 => 3 * cn n + 5
theorem cn_ge (n : Nat) : 5 ≤ cn n := by
  cases n with
  | zero => exact Nat.le_refl _
  | succ n => show 5 ≤ 3 * cn n + 5; omega
theorem strs_ones : ∀ cs : List Nat, strsOf (cs.map fun c => D.str [c]) = some (ones cs)
  | [] => rfl
  | c :: r => by
    show (strsOf (r.map fun c => D.str [c])).map ([c] :: ·) = _
    rw [strs_ones r]; rfl
theorem join_ones : ∀ cs : List Nat, joinL [] (ones cs) = cs
  | [] => rfl
  | [c] => rfl
  | c :: d :: r => by
    have ih := join_ones (d :: r)
    show [c] ++ ([] ++ joinL [] (ones (d :: r))) = _
    rw [ih]; rfl
theorem ones_len (cs : List Nat) : ((ones cs).map (·.length)).sum = cs.length := by
  induction cs with
  | nil => rfl
  | cons c r ih =>
    show 1 + ((ones r).map (·.length)).sum = _
    rw [ih, List.length_cons]; omega
theorem rgD_len' (lo hi : Int) : (rgD lo hi).length = (hi - lo).toNat := by simp [rgD]
theorem three {v : Int} (h0 : 0 ≤ v) (h1 : v < 3) : v = 0 ∨ v = 1 ∨ v = 2 := by omega
abbrev vStr : S := .ret (.join (.lit (.str [])) c__law_value_0)
abbrev vInt : S := .ret (.bin .Mult (.bin .Sub (.call "_law_draw" (.cons (.var 0) (.cons (.var 1) (.cons (.lit (.int 60)) .nil)))) (.lit (.int 30))) (.idx (.lst (.cons (.lit (.int 1)) (.cons (.lit (.int 1)) (.cons (.bin .Pow (.lit (.int 10)) (.lit (.int 20))) .nil)))) (.call "_law_draw" (.cons (.var 0) (.cons (.var 1) (.cons (.lit (.int 3)) .nil))))))
abbrev vTup : S := .ret (.pr .tuple (.cons c__law_value_1 .nil))
section
variable {n b d : Nat} {h : Hh} {ns : List Int} {kind : Int} {QF : Fl → Hh → Prop}
@[reducible] def vEnv (ns : List Int) (d : Nat) (kind : Int) : Env := [.v (.ref 0), .v (Sd ns), .v (.int (d : Nat)), .v (.int kind), .un]
theorem str_w (sc : Sc ns) (st : St b h) (hb : b + 4 < 100000) (q : ∀ v h', LV d v → St (b + 4) h' → QF (.rt v) h') : W (evSs ⟨run Pg fu (n + 2), fu⟩ (.cons vStr .nil) (vEnv ns d kind) h) QF := by
  walk_at "mp"
  refine w_comp ?_
  walk_at "mp"
  refine (draw_w (n := n) sc (by omega) (by decide) (by unfold Bd; decide) st).imp ?_
  rintro _ h ⟨v, rfl, v0, v1, st⟩
  refine ⟨v, rfl, by unfold rgOk; rw [decide_eq_true_eq]; omega, by rw [rgD_len']; exact lt_most (by omega), ?_⟩
  refine ⟨fun items acc hh => St (b + 1 + acc.length) hh ∧ acc.length + items.length ≤ 3 ∧ ∃ cs : List Nat, (∀ c ∈ cs, 97 ≤ c ∧ c ≤ 122) ∧ acc = cs.map fun c => D.str [c], ⟨st, by rw [rgD_len']; simp; omega, [], by simp, rfl⟩, ?_, ?_⟩
  · rintro d r acc hh ⟨st, hl, cs, hcs, rfl⟩
    rw [List.length_cons] at hl
    refine .of rfl ?_
    walk_at "mp"
    refine (draw_w (n := n) sc (by omega) (by decide) (by unfold Bd; decide) st).imp ?_
    rintro _ hh ⟨v, rfl, v0, v1, st⟩
    obtain ⟨c, e, hc⟩ : ∃ c, atI [97, 98, 122] v = some c ∧ 97 ≤ c ∧ c ≤ 122 := by
      rcases three v0 v1 with rfl | rfl | rfl
      · exact ⟨97, rfl, by decide, by decide⟩
      · exact ⟨98, rfl, by decide, by decide⟩
      · exact ⟨122, rfl, by decide, by decide⟩
    refine ob_ixs (by decide) e ?_
    refine ⟨st.mono (by simp; omega), by simp at hl ⊢; omega, cs ++ [c], fun x hx => ?_, by simp⟩
    rcases List.mem_append.mp hx with
                                                                hx | hx
    · exact hcs x hx
    · rw [List.mem_singleton.mp hx]; exact hc
  · rintro acc hh ⟨st, hl, cs, hcs, rfl⟩
    simp only [List.length_map, List.length_nil, Nat.add_zero] at hl
    refine ⟨_, _, _, rfl, rfl, strs_ones cs, ?_, ?_⟩
    · rw [ones_len]; exact lt_most (by simp; omega)
    · rw [join_ones]
      walk_at "mp"
      exact q _ _ (.str d cs hcs hl) (st.mono (by simp; omega))
theorem int_w (sc : Sc ns) (st : St b h) (hb : b + 4 < 100000) (q : ∀ v h', LV d v → St (b + 4) h' → QF (.rt v) h') : W (evSs ⟨run Pg fu (n + 2), fu⟩ (.cons vInt .nil) (vEnv ns d kind) h) QF := by
  walk_at "mp"
  refine (draw_w (n := n) sc (by omega) (by decide) (by unfold Bd; decide) st).imp ?_
  rintro _ h ⟨v, rfl, v0, v1, st⟩
  walk_at "mp"
  refine (draw_w (n := n) sc (by omega) (by decide) (by unfold Bd; decide) st).imp ?_
  rintro _ h ⟨u, rfl, u0, u1, st⟩
  obtain ⟨c, e, hc, hb⟩ : ∃ c : Int, atI [D.int 1, .int 1, .int (10 ^ Int.toNat 20)] u = some (.int c) ∧ c.natAbs ≤ 10 ^ 20 ∧ Bd 70 c := by
    rcases three u0 u1 with rfl | rfl | rfl
    · exact ⟨1, rfl, by decide, by unfold Bd; decide⟩
    · exact ⟨1, rfl, by decide, by unfold Bd; decide⟩
    · exact ⟨10 ^ Int.toNat 20, rfl, by decide, by unfold Bd; decide⟩
  refine ob_ixl e ?_
  refine ob_mulB (p := 10) (r := 70) (by unfold Bd; omega) hb (by decide) ?_
  walk_at "mp"
  refine q _ _ (.int d _ ?_) (st.mono (by omega))
  rw [Int.natAbs_mul]
  have h1 : (v - 30).natAbs ≤ 30 := by omega
  have h2 := Nat.mul_le_mul h1 hc
  exact Nat.lt_of_le_of_lt h2 (by decide)
end
theorem val_w {ns : List Int} (sc : Sc ns) : ∀ (d b k : Nat) (h : Hh), St b h → b + cn d < 100000 →
    W (run Pg fu (d + k + 3) "_law_value" [.ref 0, Sd ns, .int (d : Nat)] h) (fun v h' => LV d v ∧ St (b + cn d) h') := by
  intro d
  induction d with
  | zero =>
    intro b k h st hb
    have hb : b + 5 < 100000 := hb
    refine w_run i_val rfl ?_
    walk_at "mp"
    refine (draw_w (n := 0 + k) sc (by omega) (by decide) (by unfold Bd; decide) st).imp ?_
    rintro _ h ⟨kind, rfl, k0, k1, st⟩
    walk_at "mp"
    by_cases h0 : kind = 0
    · simp only [h0, decide_true, if_true]
      exact str_w (n := 0 + k) (kind := 0) sc st (by omega) fun v h' a b => ⟨a, b⟩
    · simp only [h0, decide_false, Bool.false_eq_true, if_false]
      walk_at "mp"
      by_cases h1 : kind = 1
      · simp only [h1, decide_true, Bool.true_eq_false, if_false]
        refine wb rfl ?_
        simp only [if_true]
        exact int_w (n := 0 + k) (kind := 1) sc st (by omega) fun v h' a b => ⟨a, b⟩
      · simp only [h1, decide_false, if_true]
        refine w_and1 (w_cmp (w_var rfl (w_lit (ob_eqi (wb rfl ?_)))))
        simp only [show decide (((0 : Nat) : Int) = 0) = true from rfl, if_true]
        exact int_w (n := 0 + k) (kind := kind) sc st (by omega) fun v h' a b => ⟨a, b⟩
  | succ d ih =>
    intro b k h st hb
    have hb : b + (3 * cn d + 5) < 100000 := hb
    have hcn : cn (d + 1) = 3 * cn d + 5 := rfl
    refine w_run i_val rfl ?_
    rw [show d + 1 + k + 2 = (d + k) + 3 by omega]
    walk_at "mp"
    refine (draw_w (n := d + k + 1) sc (by omega) (by decide) (by unfold Bd; decide) st).imp ?_
    rintro _ h ⟨kind, rfl, k0, k1, st⟩
    walk_at "mp"
    by_cases h0 : kind = 0
    · simp only [h0, decide_true, if_true]
      exact str_w (n := d + k + 1) (kind := 0) sc st (by omega) fun v h' a c => ⟨a, c.mono (by omega)⟩
    simp only [h0, decide_false, Bool.false_eq_true, if_false]
    walk_at "mp"
    by_cases h1 : kind = 1
    · simp only [h1, decide_true, Bool.true_eq_false, if_false]
      refine wb rfl ?_
      simp only [if_true]
      exact int_w (n := d + k + 1) (kind := 1) sc st (by omega) fun v h' a c => ⟨a, c.mono (by omega)⟩
    simp only [h1, decide_false, if_true]
    have hd : ¬ (((d + 1 : Nat) : Int) = 0) := by omega
    walk_at "mp"
    refine w_comp ?_
    walk_at "mp"
    refine (draw_w (n := d + k + 1) sc (by omega) (by decide) (by unfold Bd; decide) st).imp ?_
    rintro _ h ⟨v, rfl, v0, v1, st⟩
    refine ⟨v, rfl, by unfold rgOk; rw [decide_eq_true_eq]; omega, by rw [rgD_len']; exact lt_most (by omega), ?_⟩
    refine ⟨fun items acc hh => St (b + 2 + acc.length * cn d) hh ∧ acc.length + items.length ≤ 3 ∧ ∀ x ∈ acc, LV d x, ⟨by simpa using st, by rw [rgD_len']; simp; omega, by simp⟩, ?_, ?_⟩
    · rintro x r acc hh ⟨st, hl, hx⟩
      rw [List.length_cons] at hl
      have hm : acc.length * cn d ≤ 2 * cn d := Nat.mul_le_mul_right _ (by omega)
      refine .of rfl ?_
      walk_at "mp"
      rw [show ((d + 1 : Nat) : Int) - 1 = ((d : Nat) : Int) by omega]
      refine (ih (b + 2 + acc.length * cn d) k hh st (by omega)).imp ?_
      rintro y hh ⟨ly, st⟩
      refine ⟨st.mono ?_, by simp at hl ⊢; omega, fun z hz => ?_⟩
      · rw [List.length_append, List.length_singleton, Nat.add_mul, Nat.one_mul]; omega
      · rcases List.mem_append.mp hz with hz | hz
        · exact hx z hz
        · rw [List.mem_singleton.mp hz]; exact ly
    · rintro acc hh ⟨st, hl, hx⟩
      have hl : acc.length ≤ 3 := by simpa using hl
      have hm : acc.length * cn d ≤ 3 * cn d := Nat.mul_le_mul_right _ hl
      walk_at "mp"
      exact ⟨.tup d acc hx hl, st.mono (by omega)⟩
end MP.k75

set_option exponentiation.threshold 100000
namespace MP.k75
open PySem
open PySem.Spec
open PyProof.Rows
open L2
open MP
open NumText TL
local macro_rules | `(tactic| walk_at "mp1") => `(tactic| first
  | with_reducible refine w_seq ?_ | with_reducible refine w_nil ?_ | ((with_reducible apply w_var); · exact rfl) | ((with_reducible apply w_own); · exact rfl) | with_reducible refine w_lit ?_ | with_reducible refine w_gl ?_
  | with_reducible refine w_tup ?_ | with_reducible refine w_lst ?_ | with_reducible refine w_bin ?_ | with_reducible refine w_neg ?_ | with_reducible refine w_cmp ?_ | with_reducible refine w_and1 ?_ | with_reducible refine w_and ?_
  | with_reducible refine w_no ?_ | with_reducible refine w_tru ?_ | with_reducible refine w_ite ?_ | with_reducible refine w_idx ?_ | with_reducible refine w_slc ?_ | with_reducible refine w_o0 ?_ | with_reducible refine w_o1 ?_ | with_reducible refine w_call ?_
  | with_reducible refine w_pr ?_ | with_reducible refine w_isi ?_ | with_reducible refine w_es0 ?_ | with_reducible refine w_es1 ?_ | with_reducible refine w_if0 ?_ | with_reducible refine w_if1 ?_
  | with_reducible refine w_of ?_ | with_reducible refine w_rg1 ?_ | with_reducible refine w_rg2 ?_ | with_reducible refine w_set ?_ | with_reducible refine w_seto ?_ | with_reducible refine w_asg ?_ | with_reducible refine w_par2 ?_ | with_reducible refine w_par3 ?_
  | with_reducible refine w_app ?_ | with_reducible refine w_exp ?_ | with_reducible refine w_ret ?_ | ((with_reducible apply w_reto); · exact rfl) | with_reducible refine w_retn ?_ | with_reducible refine w_brk ?_ | with_reducible refine w_cnt ?_
  | with_reducible refine w_pass ?_ | ((with_reducible apply w_frz); · exact rfl) | with_reducible refine w_ifs ?_
  | with_reducible refine ob_add ?_ | with_reducible refine ob_sub ?_ | with_reducible refine ob_eqi ?_ | with_reducible refine ob_nei ?_ | with_reducible refine ob_lti ?_ | with_reducible refine ob_lei ?_ | with_reducible refine ob_gti ?_ | with_reducible refine ob_gei ?_
  | with_reducible refine ob_isb ?_ | with_reducible refine ob_nisb ?_ | with_reducible refine ob_lent ?_ | with_reducible refine ob_lenl ?_ | with_reducible refine ob_gcd ?_ | with_reducible refine ob_int ?_ | with_reducible refine ob_tupl ?_
  | with_reducible refine ob_lstt ?_ | with_reducible refine ob_lstl ?_ | with_reducible refine ob_trub ?_
  | ((with_reducible apply wlt); · exact of_decide_eq_true rfl) | ((with_reducible apply wlt2); · exact of_decide_eq_true rfl) | ((with_reducible apply wlt3); · exact of_decide_eq_true rfl) | ((with_reducible apply wmost); · exact of_decide_eq_true rfl)
  | ((with_reducible apply wlst); · exact rfl) | ((with_reducible apply wint); · exact rfl)
  | ((with_reducible apply wb); · exact rfl)
  | ((with_reducible apply ob_rfl); · exact rfl)
  | ((with_reducible apply ifp); · exact rfl) | ((with_reducible apply ifn); · exact fun e => Bool.noConfusion e))
local macro_rules | `(tactic| walk_at "mp") => `(tactic| repeat walk_at "mp1")
local macro_rules | `(tactic| walk_at "mp1") => `(tactic| first
  | with_reducible refine w_join ?_ | with_reducible refine w_lstr ?_ | with_reducible refine w_dget ?_ | with_reducible refine w_popl ?_ | with_reducible refine w_isi2 ?_ | with_reducible refine w_new ?_ | with_reducible refine w_appr ?_
  | with_reducible refine w_setir ?_ | with_reducible refine w_enumS ?_ | with_reducible refine ob_inc ?_ | with_reducible refine ob_ninc ?_ | with_reducible refine ob_isn ?_ | with_reducible refine ob_nisn ?_ | with_reducible refine ob_eqb ?_ | with_reducible refine ob_neb ?_
  | ((with_reducible apply ob_eqc); (focus assumption); (focus exact rfl)) | ((with_reducible apply ob_nec); (focus assumption); (focus exact rfl)))
/-! ### the law -/
theorem i3 {w : List Nat} {d : D} (cw : CW w d) : True := trivial
theorem cw_atom {n : Nat} {d : D} (v : Val n d) (h : ∀ l, d ≠ .tup l) : CW (txt d) d := by
  cases v with
  | str _ s hs =>
    rw [txt]
    split
    · rename_i e; subst e; exact .dot
    · rename_i e; exact .letr s e hs
  | int _ z hz =>
    rw [txt]
    unfold txtI
    have c := numL_canon z.natAbs
    have hl := (pow500 hz).2
    have v := numL_val z.natAbs
    by_cases h0 : z < 0
    · have key := CW.num true (numL z.natAbs) c (fun _ => by
        rcases c.2.2 with e | e
        · exfalso
          rw [e] at v
          have : z.natAbs = 0 := v.symm
          omega
        · exact e) hl
      rw [v] at key
      simp only [if_true] at key
      rw [if_pos h0]
      have e : -((z.natAbs : Nat) : Int) = z := by omega
      rw [e] at key
      exact key
    · have key := CW.num false (numL z.natAbs) c (fun z => by cases z) hl
      rw [v] at key
      simp only [Bool.false_eq_true, if_false] at key
      rw [if_neg h0]
      have e : ((z.natAbs : Nat) : Int) = z := by omega
      rw [e] at key
      exact key
  | tup k l hl => exact absurd rfl (h l)
theorem tx_pre {x y : List Nat} (h : Ascii (x ++ y) ∧ (x ++ y).length ≤ 2023 ∧ Stay 4 0 (x ++ y) ∧ Runs 23 0 (x ++ y)) : Tx x := by
  obtain ⟨h1, h2, h3, h4⟩ := h
  refine tx_of ⟨fun c hc => h1 c (by simp [hc]), by rw [List.length_append] at h2; omega, (stay_app.mp h3).1, (runs_split h4).1⟩
abbrev restT : Ss := (.cons (.ifs (.bop true (.cons (.no (.tru (.isi (.var 7) .tuple))) (.cons (.no (.tru (.call "_law_exact" (.cons (.var 7) (.cons (.call "value_of" (.cons (.var 8) .nil)) .nil))))) .nil))) (.cons (.ret (.lit (.bl false))) .nil) .nil) (.cons (.set 10 (.lit (.str [115, 116, 97, 114, 116]))) (.cons (l_law_1) (.cons (.ifs (.cmp .Is (.var 10) (.lit .non)) (.cons (.ret (.lit (.bl false))) .nil) .nil) .nil))))
section
variable {n b : Nat} {h : Hh} {ns : List Int} {QF : Fl → Hh → Prop}
theorem rest_w {v : D} (vl : Val 4 v) (hl : (txt v).length ≤ 2023) {x2 x3 x4 x5 x6 x9 x10 x11 x12 x13 x14 x15 x16 x17 x18 : Slot}
    (q : ∀ y10 y11, QF (.nx [.v (Sd ns), .v (.ref 0), x2, x3, x4, x5, x6, .v v, .v (.str (txt v)), x9, y10, y11, x12, x13, x14, x15, x16, x17, x18]) h) :
    W (evSs ⟨run Pg fu (n + 7), fu⟩ restT [.v (Sd ns), .v (.ref 0), x2, x3, x4, x5, x6, .v v, .v (.str (txt v)), x9, x10, x11, x12, x13, x14, x15, x16, x17, x18] h) QF := by
  have here : W (evS ⟨run Pg fu (n + 7), fu⟩ l_law_1 [.v (Sd ns), .v (.ref 0), x2, x3, x4, x5, x6, .v v, .v (.str (txt v)), x9, .v (.str [115, 116, 97, 114, 116]), x11, x12, x13, x14, x15, x16, x17, x18] h)
      (nxt ⟨run Pg fu (n + 7), fu⟩ (.cons (.ifs (.cmp .Is (.var 10) (.lit .non)) (.cons (.ret (.lit (.bl false))) .nil) .nil) .nil) QF) := by
    have asc := ascii_val vl
    refine w_for ?_
    walk_at "mp"
    refine ⟨fun items env hh => hh = h ∧ ∃ q dep k rest y, items = (rest.map fun z => D.str [z]) ∧ env = [.v (Sd ns), .v (.ref 0), x2, x3, x4, x5, x6, .v v, .v (.str (txt v)), x9, .v (.str (Q.code q)), y, x12, x13, x14, x15, x16, x17, x18] ∧ FW q dep k rest = none ∧ Ascii rest, ⟨rfl, .start, 0, 0, txt v, x11, rfl, rfl, fw_none vl, asc⟩, ?_, ?_⟩
    · rintro d r env hh ⟨rfl, q', dep, k, rest, y, f1, rfl, f2, f3⟩
      cases rest with
      | nil => cases f1
      | cons c rest =>
        rw [List.map_cons] at f1
        injection f1 with f5 f6
        subst f5 f6
        refine .of rfl ?_
        walk_at "mp"
        refine (ns_w (n := n + 6) q' (f3 c (by simp))).imp ?_
        rintro _ _ ⟨rfl, rfl⟩
        walk_at "mp"
        rw [FW] at f2
        cases eN : NS q' c with
        | none => rw [eN] at f2; cases f2
        | some q2 =>
          rw [eN] at f2
          simp only at f2
          split at f2
          · cases f2
          · exact ⟨rfl, q2, _, _, rest, _, rfl, rfl, f2, fun z hz => f3 z (List.mem_cons_of_mem _ hz)⟩
    · rintro env hh ⟨rfl, q', dep, k, rest, y, f1, rfl, f2, f3⟩
      walk_at "mp"
      exact q _ _
  by_cases ht : ∃ l, v = .tup l
  · obtain ⟨l, rfl⟩ := ht
    walk_at "mp"
    exact here
  · have cw := cw_atom vl (fun l e => ht ⟨l, e⟩)
    have hi : ∀ h', isiD h' .tuple v = some false := fun h' => by
      cases vl with
      | str => rfl
      | int => rfl
      | tup k l _ => exact absurd ⟨l, rfl⟩ ht
    walk_at "mp"
    refine .of (hi _) ?_
    walk_at "mp"
    refine (vo_w (n := n + 5) (h := h) cw (by omega)).imp ?_
    rintro d' h' ⟨e8, e9⟩
    rw [e8, e9]
    walk_at "mp"
    have hx := ex_w (vl.ex (by omega)) (n + 2) h
    rw [show 4 + (n + 2) + 1 = n + 7 by omega] at hx
    with_reducible refine hx.imp ?_
    rintro d' h' ⟨e8, e9⟩
    rw [e8, e9]
    walk_at "mp"
    exact here
theorem turn_w (sc : Sc ns) (hb : b + 608 < 100000) (st : St b h) {x2 x3 x4 x5 x6 x7 x8 x9 x10 x11 x12 x13 x14 x15 x16 x17 x18 : Slot}
    (q : ∀ y7 y8 y9 y10 y11 y15 y16 y17 y18 h', St (b + 608) h' → QF (.nx [.v (Sd ns), .v (.ref 0), x2, x3, x4, x5, x6, y7, y8, y9, y10, y11, x12, x13, x14, y15, y16, y17, y18]) h') :
    W (evSs ⟨run Pg fu (n + 7), fu⟩ k_law_0 [.v (Sd ns), .v (.ref 0), x2, x3, x4, x5, x6, x7, x8, x9, x10, x11, x12, x13, x14, x15, x16, x17, x18] h) QF := by
  walk_at "mp"
  have hv := val_w sc 4 b n h st (show b + 605 < 100000 by omega)
  rw [show 4 + n + 3 = n + 7 by omega] at hv
  refine hv.imp ?_
  rintro v h ⟨lv, st⟩
  have st : St (b + 605) h := st
  have vl := lv.val
  have tx := tx_text lv
  have txx := tx_of tx
  walk_at "mp"
  have ht := lt_w vl (n + 2) h (by omega)
  rw [show 4 + (n + 2) + 1 = n + 7 by omega] at ht
  refine ht.imp ?_
  rintro _ h ⟨rfl, rfl⟩
  walk_at "mp"
  have hw := wv_w vl n h (by omega)
  rw [show 4 + n + 3 = n + 7 by omega] at hw
  refine hw.imp ?_
  rintro _ h ⟨rfl, rfl⟩
  walk_at "mp"
  refine (rv_ok (n := n + 4) (h := h) txx (fw_none vl)).imp ?_
  rintro _ _ ⟨v', t, rfl, rfl, v1, v2⟩
  have ev : v' = v := txt_eq v1 vl v2
  subst ev
  have st := st.app (t := t)
  obtain ⟨h, eh⟩ : ∃ g, g = h ++ t := ⟨_, rfl⟩
  rw [← eh] at st ⊢
  walk_at "mp"
  refine (fw_w (n := n + 5) (h := h) txx.cod (by omega)).imp ?_
  rintro _ h ⟨rfl, rfl⟩
  rw [fw_none vl, show encN none = D.non from rfl]
  walk_at "mp"
  have hi := isv_w vl (n + 2) h
  rw [show 4 + (n + 2) + 1 = n + 7 by omega] at hi
  refine hi.imp ?_
  rintro _ h ⟨rfl, rfl⟩
  walk_at "mp"
  have he : Ex 6 (.lst [.str (txt v'), .tup [v'], .non, .bl true]) := by
    refine .lst 5 _ (fun d hd => ?_) (by simp)
    simp only [List.mem_cons, List.not_mem_nil, or_false] at hd
    rcases hd with rfl | rfl | rfl | rfl
    · exact .str _ _ (ascii_cod txx.cod)
    · refine .tup 4 _ (fun d hd => ?_) (by simp)
      rw [List.mem_singleton.mp hd]
      exact vl.ex (by omega)
    · exact .non _
    · exact .bl _ _
  have hx := ex_w he n h
  rw [show 6 + n + 1 = n + 7 by omega] at hx
  with_reducible refine hx.imp ?_
  rintro _ h ⟨rfl, rfl⟩
  walk_at "mp"
  refine ob_lens (lt_most (by omega)) ?_
  walk_at "mp"
  have bd1 : Bd 9000 (((txt v').length : Nat) + 1 : Int) := Bd.mono (p := 12) (by unfold Bd; omega) (by decide)
  refine (draw_w (n := n + 5) sc (by omega) (by omega) bd1 st).imp ?_
  rintro _ h ⟨at', rfl, a0, a1, st⟩
  obtain ⟨a, rfl⟩ := Int.eq_ofNat_of_zero_le a0
  walk_at "mp"
  refine (draw_w (n := n + 5) sc (by omega) (by decide) (by unfold Bd; decide) st).imp ?_
  rintro _ h ⟨u, rfl, u0, u1, st⟩
  obtain ⟨c, ec, hc⟩ : ∃ c, atI [40, 41, 32, 45, 46, 48, 53, 97, 122, 44, 65] u = some c ∧ c < 128 := by
    rw [at_nat u0]
    have hlt : u.toNat < [40, 41, 32, 45, 46, 48, 53, 97, 122, 44, 65].length := by show u.toNat < 11; omega
    rw [List.getElem?_eq_getElem hlt]
    refine ⟨_, rfl, ?_⟩
    have key : ∀ z ∈ [40, 41, 32, 45, 46, 48, 53, 97, 122, 44, 65], z < 128 := by decide
    exact key _ (List.getElem_mem hlt)
  refine ob_ixs (by decide) ec ?_
  obtain ⟨T, hT⟩ : ∃ T, T = txt v' := ⟨_, rfl⟩
  rw [← hT] at tx a1 ⊢
  have hTl := tx.2.1
  have e1 : cutD T none (some ((a : Nat) : Int)) = T.take a := cut_to (by omega)
  have e2 : cutD T (some ((a : Nat) : Int)) none = T.drop a := cut_from (by omega)
  have e3 : cutD T (some (((a : Nat) : Int) + 1)) none = T.drop (a + 1) := by rw [cut_from (by omega)]; congr 1
  have l1 : (T.take a).length ≤ 2023 := by rw [List.length_take]; omega
  have l2 : (T.drop a).length ≤ 2023 := by rw [List.length_drop]; omega
  have l3 : (T.drop (a + 1)).length ≤ 2023 := by rw [List.length_drop]; omega
  walk_at "mp"
  refine ob_cuts (lt_most (by omega)) ?_
  rw [e1]
  walk_at "mp"
  refine ob_strs (lt_most (by simp only [List.length_append, List.length_cons, List.length_nil]; omega)) ?_
  walk_at "mp"
  refine ob_cuts (lt_most (by omega)) ?_
  rw [e2]
  refine ob_strs (lt_most (by simp only [List.length_append, List.length_cons, List.length_nil]; omega)) ?_
  walk_at "mp"
  refine ob_cuts (lt_most (by omega)) ?_
  rw [e1]
  walk_at "mp"
  refine ob_cuts (lt_most (by omega)) ?_
  rw [e3]
  refine ob_strs (lt_most (by omega)) ?_
  walk_at "mp"
  refine ob_cuts (lt_most (by omega)) ?_
  rw [e1]
  walk_at "mp"
  refine ob_strs (lt_most (by simp only [List.length_append, List.length_cons, List.length_nil]; omega)) ?_
  walk_at "mp"
  refine ob_cuts (lt_most (by omega)) ?_
  rw [e3]
  refine ob_strs (lt_most (by simp only [List.length_append, List.length_cons, List.length_nil]; omega)) ?_
  walk_at "mp"
  refine ob_cuts (lt_most (by omega)) ?_
  rw [e1]
  walk_at "mp"
  refine (draw_w (n := n + 5) sc (by omega) (by decide) (by unfold Bd; decide) st).imp ?_
  rintro _ h ⟨u2, rfl, w0, w1, st⟩
  have full : T = T.take a ++ [] ++ T.drop a := by simp
  have ha1 : T.take a ++ (T.drop a).take 1 ++ T.drop (a + 1) = T := by
    rw [List.append_assoc]
    have : (T.drop a).take 1 ++ T.drop (a + 1) = T.drop a := by
      rw [show T.drop (a + 1) = (T.drop a).drop 1 by rw [List.drop_drop]]
      exact List.take_append_drop 1 _
    rw [this, List.take_append_drop]
  have hm1 : ((T.drop a).take 1).length ≤ 1 := by rw [List.length_take]; omega
  have hcu : Ascii [c] := fun x hx => by rw [List.mem_singleton.mp hx]; exact hc
  have hnu : Ascii ([] : List Nat) := fun x hx => by simp at hx
  obtain ⟨bt, eb, tb⟩ : ∃ bt, atI [D.str (T.take a ++ [c] ++ T.drop a), .str (T.take a ++ T.drop (a + 1)), .str (T.take a ++ [c] ++ T.drop (a + 1)), .str (T.take a)] u2 = some (.str bt) ∧ Tx bt := by
    have : u2 = 0 ∨ u2 = 1 ∨ u2 = 2 ∨ u2 = 3 := by omega
    rcases this with rfl | rfl | rfl | rfl
    · exact ⟨_, rfl, tx_bent (m := []) (by rw [← full]; exact tx) (by simp) (by simp) hcu⟩
    · refine ⟨_, rfl, ?_⟩
      have := tx_bent (x := T.take a) (m := (T.drop a).take 1) (y := T.drop (a + 1)) (u := []) (by rw [ha1]; exact tx) hm1 (by simp) hnu
      rwa [List.append_nil] at this
    · exact ⟨_, rfl, tx_bent (m := (T.drop a).take 1) (by rw [ha1]; exact tx) hm1 (by simp) hcu⟩
    · exact ⟨_, rfl, tx_pre (y := T.drop a) (by rw [List.take_append_drop]; exact tx)⟩
  refine ob_ixl eb ?_
  walk_at "mp"
  have hbl := tb.len
  refine (lw_w (n := n + 6) (h := h) tb.cod (by omega)).imp ?_
  rintro _ h ⟨rfl, rfl⟩
  rw [show LW [] 0 bt = FW .start 0 0 bt from (fw_lw bt j0).symm]
  walk_at "mp"
  have last : ∀ h x17 x18, St (b + 608) h → W (evSs ⟨run Pg fu (n + 7), fu⟩ restT [.v (Sd ns), .v (.ref 0), x2, x3, x4, x5, x6, .v v', .v (.str T), .v (.str bt), x10, x11, x12, x13, x14, .v (.int (a : Nat)), .v (.str [c]), x17, x18] h) QF := fun h x17 x18 st => by
    rw [hT]
    exact rest_w vl (by rw [← hT]; exact hTl) fun y10 y11 => q _ _ _ _ _ _ _ _ _ _ st
  generalize hR : ((.cons (.ifs (.bop true (.cons (.no (.tru (.isi (.var 7) .tuple))) (.cons (.no (.tru (.call "_law_exact" (.cons (.var 7) (.cons (.call "value_of" (.cons (.var 8) .nil)) .nil))))) .nil))) (.cons (.ret (.lit (.bl false))) .nil) .nil) (.cons (.set 10 (.lit (.str [115, 116, 97, 114, 116]))) (.cons (l_law_1) (.cons (.ifs (.cmp .Is (.var 10) (.lit .non)) (.cons (.ret (.lit (.bl false))) .nil) .nil) .nil)))) : Ss) = R
  cases eF : FW .start 0 0 bt with
  | some k =>
    refine (rv_no (n := n + 4) (h := h) tb.cod (by omega) eF).imp ?_
    rintro d' h' ⟨e8, e9⟩
    rw [e8, e9, show encN (some k) = D.int (k : Nat) from rfl]
    walk_at "mp"
    refine (fw_w (n := n + 5) (h := h) tb.cod (by omega)).imp ?_
    rintro d' h' ⟨e8, e9⟩
    rw [e8, e9, eF, show encN (some k) = D.int (k : Nat) from rfl]
    walk_at "mp"
    have hx := ex_w (Ex.int 0 ((k : Nat) : Int)) (n + 6) h
    rw [show 0 + (n + 6) + 1 = n + 7 by omega] at hx
    with_reducible refine hx.imp ?_
    rintro d' h' ⟨e8, e9⟩
    rw [e8, e9]
    walk_at "mp"
    subst hR
    exact last _ _ _ (st.mono (by omega))
  | none =>
    refine (rv_ok (n := n + 4) (h := h) tb eF).imp ?_
    rintro d' h' ⟨w, t2, e8, e9, wv, wt⟩
    rw [e8, show encN none = D.non from rfl]
    have st2 := st.app (t := t2)
    rw [← e9] at st2
    walk_at "mp"
    refine (fw_w (n := n + 5) (h := h') tb.cod (by omega)).imp ?_
    rintro d2 h2 ⟨e8, e10⟩
    rw [e8, e10, eF, show encN none = D.non from rfl]
    walk_at "mp"
    have hx := ex_w (Ex.non 0) (n + 6) h'
    rw [show 0 + (n + 6) + 1 = n + 7 by omega] at hx
    with_reducible refine hx.imp ?_
    rintro d2 h2 ⟨e8, e10⟩
    rw [e8, e10]
    walk_at "mp"
    have hy := lt_w wv n h' (by rw [wt]; omega)
    rw [show 6 + n + 1 = n + 7 by omega] at hy
    with_reducible refine hy.imp ?_
    rintro d2 h2 ⟨e8, e10⟩
    rw [e8, e10, wt]
    walk_at "mp"
    refine ob_nes (ascii_cod tb.cod) (ascii_cod tb.cod) ?_
    walk_at "mp"
    simp only [decide_true, Bool.not_true, Bool.false_eq_true, if_false]
    walk_at "mp"
    subst hR
    exact last _ _ _ (st2.mono (by omega))
end
end MP.k75

set_option exponentiation.threshold 100000
namespace MP.k75
open PySem
open PySem.Spec
open PyProof.Rows
open L2
open MP
open NumText TL
local macro_rules | `(tactic| walk_at "mp1") => `(tactic| first
  | with_reducible refine w_seq ?_ | with_reducible refine w_nil ?_ | ((with_reducible apply w_var); · exact rfl) | ((with_reducible apply w_own); · exact rfl) | with_reducible refine w_lit ?_ | with_reducible refine w_gl ?_
  | with_reducible refine w_tup ?_ | with_reducible refine w_lst ?_ | with_reducible refine w_bin ?_ | with_reducible refine w_neg ?_ | with_reducible refine w_cmp ?_ | with_reducible refine w_and1 ?_ | with_reducible refine w_and ?_
  | with_reducible refine w_no ?_ | with_reducible refine w_tru ?_ | with_reducible refine w_ite ?_ | with_reducible refine w_idx ?_ | with_reducible refine w_slc ?_ | with_reducible refine w_o0 ?_ | with_reducible refine w_o1 ?_ | with_reducible refine w_call ?_
  | with_reducible refine w_pr ?_ | with_reducible refine w_isi ?_ | with_reducible refine w_es0 ?_ | with_reducible refine w_es1 ?_ | with_reducible refine w_if0 ?_ | with_reducible refine w_if1 ?_
  | with_reducible refine w_of ?_ | with_reducible refine w_rg1 ?_ | with_reducible refine w_rg2 ?_ | with_reducible refine w_set ?_ | with_reducible refine w_seto ?_ | with_reducible refine w_asg ?_ | with_reducible refine w_par2 ?_ | with_reducible refine w_par3 ?_
  | with_reducible refine w_app ?_ | with_reducible refine w_exp ?_ | with_reducible refine w_ret ?_ | ((with_reducible apply w_reto); · exact rfl) | with_reducible refine w_retn ?_ | with_reducible refine w_brk ?_ | with_reducible refine w_cnt ?_
  | with_reducible refine w_pass ?_ | ((with_reducible apply w_frz); · exact rfl) | with_reducible refine w_ifs ?_
  | with_reducible refine ob_add ?_ | with_reducible refine ob_sub ?_ | with_reducible refine ob_eqi ?_ | with_reducible refine ob_nei ?_ | with_reducible refine ob_lti ?_ | with_reducible refine ob_lei ?_ | with_reducible refine ob_gti ?_ | with_reducible refine ob_gei ?_
  | with_reducible refine ob_isb ?_ | with_reducible refine ob_nisb ?_ | with_reducible refine ob_lent ?_ | with_reducible refine ob_lenl ?_ | with_reducible refine ob_gcd ?_ | with_reducible refine ob_int ?_ | with_reducible refine ob_tupl ?_
  | with_reducible refine ob_lstt ?_ | with_reducible refine ob_lstl ?_ | with_reducible refine ob_trub ?_
  | ((with_reducible apply wlt); · exact of_decide_eq_true rfl) | ((with_reducible apply wlt2); · exact of_decide_eq_true rfl) | ((with_reducible apply wlt3); · exact of_decide_eq_true rfl) | ((with_reducible apply wmost); · exact of_decide_eq_true rfl)
  | ((with_reducible apply wlst); · exact rfl) | ((with_reducible apply wint); · exact rfl)
  | ((with_reducible apply wb); · exact rfl)
  | ((with_reducible apply ob_rfl); · exact rfl)
  | ((with_reducible apply ifp); · exact rfl) | ((with_reducible apply ifn); · exact fun e => Bool.noConfusion e))
local macro_rules | `(tactic| walk_at "mp") => `(tactic| repeat walk_at "mp1")
local macro_rules | `(tactic| walk_at "mp1") => `(tactic| first
  | with_reducible refine w_join ?_ | with_reducible refine w_lstr ?_ | with_reducible refine w_dget ?_ | with_reducible refine w_popl ?_ | with_reducible refine w_isi2 ?_ | with_reducible refine w_new ?_ | with_reducible refine w_appr ?_
  | with_reducible refine w_setir ?_ | with_reducible refine w_enumS ?_ | with_reducible refine ob_inc ?_ | with_reducible refine ob_ninc ?_ | with_reducible refine ob_isn ?_ | with_reducible refine ob_nisn ?_ | with_reducible refine ob_eqb ?_ | with_reducible refine ob_neb ?_
  | ((with_reducible apply ob_eqc); (focus assumption); (focus exact rfl)) | ((with_reducible apply ob_nec); (focus assumption); (focus exact rfl)))
/-! ### things that are no values -/
def NotV (d : D) : Prop := ∀ (n : Nat) (h : Hh), W (run Pg fu (n + 3) "is_value" [d] h) (Is (.bl false) h)
theorem nv1 : NotV .non := fun n h => by
  refine w_run i_isv rfl ?_
  walk_at "mp"
  exact is_mk
theorem nv2 : NotV (.bl true) := fun n h => by
  refine w_run i_isv rfl ?_
  walk_at "mp"
  exact is_mk
theorem nv2f (n : Nat) (h : Hh) : W (run Pg fu (n + 1) "is_value" [.bl false] h) (Is (.bl false) h) := by
  refine w_run i_isv rfl ?_
  walk_at "mp"
  exact is_mk
theorem nv3 (n : Nat) (h : Hh) : W (run Pg fu (n + 1) "is_value" [.lst [.int 1]] h) (Is (.bl false) h) := by
  refine w_run i_isv rfl ?_
  walk_at "mp"
  exact is_mk
theorem nv_str {s : List Nat} {x : List Nat} {c : Nat} {y : List Nat} (e : s = x ++ c :: y) (hx : ∀ z ∈ x, z ∈ letters) (hc : c ∉ letters) : NotV (.str s) := fun n h => by
  refine w_run i_isv rfl ?_
  walk_at "mp"
  refine w_gen ?_
  walk_at "mp"
  refine ⟨fun items hh => hh = h ∧ ∃ x', items = ((x' ++ c :: y).map fun z => D.str [z]) ∧ ∀ z ∈ x', z ∈ letters, ⟨rfl, x, by rw [e], hx⟩, ?_, ?_⟩
  · rintro d r hh ⟨rfl, x', e1, hx'⟩
    cases x' with
    | nil =>
      rw [List.nil_append, List.map_cons] at e1
      injection e1 with e3 e4
      subst e3 e4
      refine .of rfl ?_
      walk_at "mp"
      simp only [hc, decide_false, Bool.false_eq_true, if_false]
      exact ⟨rfl, rfl⟩
    | cons a x' =>
      rw [List.cons_append, List.map_cons] at e1
      injection e1 with e3 e4
      subst e3 e4
      refine .of rfl ?_
      walk_at "mp"
      have ha := hx' a (by simp)
      simp only [ha, decide_true, if_true]
      exact ⟨trivial, x', rfl, fun z hz => hx' z (List.mem_cons_of_mem _ hz)⟩
  · rintro hh ⟨rfl, x', e1, _⟩
    simp at e1
theorem nv_tup {a b : D} (ha : ∀ n h, W (run Pg fu (n + 1) "is_value" [a] h) (Is (.bl true) h)) (hb : ∀ n h, W (run Pg fu (n + 1) "is_value" [b] h) (Is (.bl false) h)) : NotV (.tup [a, b]) := fun n h => by
  refine w_run i_isv rfl ?_
  walk_at "mp"
  refine w_gen1 ?_
  walk_at "mp"
  refine w_all1 ?_
  walk_at "mp"
  refine (ha (n + 1) h).imp ?_
  rintro _ h ⟨rfl, rfl⟩
  walk_at "mp"
  refine w_all1 ?_
  walk_at "mp"
  refine (hb (n + 1) h).imp ?_
  rintro _ h ⟨rfl, rfl⟩
  walk_at "mp"
  exact ⟨rfl, rfl⟩
theorem okv {d : D} (v : Val 0 d) (n : Nat) (h : Hh) : W (run Pg fu (n + 1) "is_value" [d] h) (Is (.bl true) h) := by
  have := isv_w v n h
  rwa [show 0 + n + 1 = n + 1 by omega] at this
theorem nots : ∀ d ∈ [D.non, .bl true, .lst [.int 1], .str [97, 66], .tup [.str [97], .lst [.int 1]], .str [97, 32, 98], .tup [.int 1, .bl false]], NotV d := by
  intro d hd
  simp only [List.mem_cons, List.not_mem_nil, or_false] at hd
  rcases hd with rfl | rfl | rfl | rfl | rfl | rfl | rfl
  · exact nv1
  · exact nv2
  · exact fun n h => nv3 (n + 2) h
  · exact nv_str (x := [97]) (c := 66) (y := []) rfl (by decide) (by decide)
  · exact nv_tup (okv (.str 0 [97] (by decide))) nv3
  · exact nv_str (x := [97]) (c := 32) (y := [98]) rfl (by decide) (by decide)
  · exact nv_tup (okv (.int 0 1 (Nat.lt_of_lt_of_le (by decide : Int.natAbs 1 < 10 ^ 1) (Nat.pow_le_pow_right (by decide) (by decide))))) nv2f
/-- the texts that are wrong at known places -/
def rowsK : List (List Nat × Nat) := [([], 0), ([48, 49], 1), ([40, 49, 32, 32, 50, 41], 3), ([45, 48], 1), ([40], 1), ([97, 32, 98], 1), ([40, 97, 32, 41], 3), ([46, 46], 1), ([97, 49], 1), ([40, 41, 40], 2)]
theorem rows_ok : ∀ x ∈ rowsK, FW .start 0 0 x.1 = some x.2 ∧ (∀ c ∈ x.1, c < 128) ∧ x.1.length ≤ 100 := by decide
@[reducible] def gEnv (ns : List Int) (a m : Nat) (f : List Nat) (x2 x3 x5 x6 x7 x8 x9 x10 x11 x14 x15 x16 x17 x18 : Slot) : Env :=
  [.v (Sd ns), .v (.ref 0), x2, x3, .v (.int ((10 ^ a + digitsVal f : Nat) : Int)), x5, x6, x7, x8, x9, x10, x11, .v (.str f), .v (.int (m : Nat)), x14, x15, x16, x17, x18]
structure Gr (a : Nat) (f : List Nat) : Prop where
  len : f.length = a
  dig : AllDigits f
  hd : f ≠ [] → f.head? ≠ some 48
theorem gr_bd {a : Nat} {f : List Nat} (g : Gr a f) (ha : a ≤ 2000) : Bd 10000 ((10 ^ a + digitsVal f : Nat) : Int) := by
  have h1 := dv_lt f g.dig
  rw [g.len] at h1
  have h2 : 10 ^ (a + 1) ≤ 2 ^ 10000 := Nat.le_trans (Nat.pow_le_pow_right (by decide) (by omega : a + 1 ≤ 3 * 1000)) (pow_bd 1000)
  rw [Nat.pow_succ] at h2
  refine bd_nat ?_
  have : 0 < 10 ^ a := Nat.pow_pos (by decide)
  generalize 10 ^ a = x at *
  generalize 2 ^ 10000 = y at *
  omega
theorem gr_more {a : Nat} {f : List Nat} (g : Gr a f) {v : Int} (v0 : 0 ≤ v) (v1 : v < 10) (h0 : a = 0 → 1 ≤ v) :
    Gr (a + 1) (f ++ [48 + v.toNat]) ∧ ((10 ^ a + digitsVal f : Nat) : Int) * 10 + v = ((10 ^ (a + 1) + digitsVal (f ++ [48 + v.toNat]) : Nat) : Int) := by
  refine ⟨⟨by simp [g.len], AllD.app g.dig (AllD.one (by omega)), fun _ => ?_⟩, ?_⟩
  · cases f with
    | nil =>
      have := h0 (by rw [← g.len]; rfl)
      simp; omega
    | cons c r => exact g.hd (by simp)
  · rw [dv_snoc, Nat.pow_succ]
    generalize 10 ^ a = x
    generalize digitsVal f = y
    omega
theorem fig_w {n a m : Nat} {h : Hh} {ns : List Int} {f : List Nat} {QF : Fl → Hh → Prop} (g : Gr a f) (ha : a ≤ 2000) {v : Int} (v0 : 0 ≤ v) (v1 : v < 10) (h0 : a = 0 → 1 ≤ v) {x2 x3 x5 x6 x7 x8 x9 x10 x11 x15 x16 x17 x18 : Slot}
    (q : Gr (a + 1) (f ++ [48 + v.toNat]) → QF (.nx (gEnv ns (a + 1) m (f ++ [48 + v.toNat]) x2 x3 x5 x6 x7 x8 x9 x10 x11 (.v (.int v)) x15 x16 x17 x18)) h) :
    W (evSs ⟨run Pg fu n, fu⟩ (.cons (.par2 4 12 (.bin .Add (.bin .Mult (.var 4) (.lit (.int 10))) (.var 14)) (.bin .Add (.var 12) (.idx (.lit (.str [48, 49, 50, 51, 52, 53, 54, 55, 56, 57])) (.var 14)))) .nil) (gEnv ns a m f x2 x3 x5 x6 x7 x8 x9 x10 x11 (.v (.int v)) x15 x16 x17 x18) h) QF := by
  obtain ⟨g1, g2⟩ := gr_more g v0 v1 h0
  walk_at "mp"
  refine ob_mulB (gr_bd g ha) (show Bd 4 10 by unfold Bd; decide) (by decide) ?_
  walk_at "mp"
  have ei : atI [48, 49, 50, 51, 52, 53, 54, 55, 56, 57] v = some (48 + v.toNat) := by
    rw [at_nat v0]
    have : v = 0 ∨ v = 1 ∨ v = 2 ∨ v = 3 ∨ v = 4 ∨ v = 5 ∨ v = 6 ∨ v = 7 ∨ v = 8 ∨ v = 9 := by omega
    rcases this with rfl | rfl | rfl | rfl | rfl | rfl | rfl | rfl | rfl | rfl <;> rfl
  refine ob_ixs (by decide) ei ?_
  refine ob_strs (lt_most (by rw [g.len]; simp; omega)) ?_
  walk_at "mp"
  rw [g2]
  exact q g1
theorem law_w {n : Nat} {ns : List Int} (sc : Sc ns) : W (run Pg fu (n + 8) "law" [Sd ns] []) (fun d _ => d = .bl true) := by
  refine w_run i_law rfl ?_
  walk_at "mp"
  refine w_for ?_
  walk_at "mp"
  refine ⟨by decide, ?_⟩
  refine ⟨fun items env hh => ∃ b x2 x3 x4 x5 x6 x7 x8 x9 x10 x11 x12 x13 x14 x15 x16 x17 x18, b + 608 * items.length ≤ 5000 ∧ St b hh ∧ env = [.v (Sd ns), .v (.ref 0), x2, x3, x4, x5, x6, x7, x8, x9, x10, x11, x12, x13, x14, x15, x16, x17, x18],
    ⟨0, .un, .un, .un, .un, .un, .un, .un, .un, .un, .un, .un, .un, .un, .un, .un, .un, .un, by rw [rgD_len']; decide, ⟨0, 0, rfl, Nat.le_refl _⟩, rfl⟩, ?_, ?_⟩
  · rintro d r env hh ⟨b, x2, x3, x4, x5, x6, x7, x8, x9, x10, x11, x12, x13, x14, x15, x16, x17, x18, hb, st, rfl⟩
    rw [List.length_cons] at hb
    refine .of rfl ?_
    refine turn_w (n := n) sc (by omega) st fun y7 y8 y9 y10 y11 y15 y16 y17 y18 h' st' => ?_
    exact ⟨b + 608, _, _, _, _, _, _, _, _, _, _, _, _, _, _, _, _, _, by omega, st', rfl⟩
  · rintro env h ⟨b, x2, x3, x4, x5, x6, x7, x8, x9, x10, x11, x12, x13, x14, x15, x16, x17, x18, hb, st, rfl⟩
    have hb : b ≤ 5000 := by simpa using hb
    walk_at "mp"
    refine (draw_w (n := n + 5) sc (by omega) (by decide) (by unfold Bd; decide) st).imp ?_
    rintro _ h ⟨u, rfl, u0, u1, st⟩
    walk_at "mp"
    obtain ⟨m, hm⟩ : ∃ m : Nat, 495 + u = (m : Int) := ⟨(495 + u).toNat, by omega⟩
    rw [hm]
    refine w_for ?_
    walk_at "mp"
    refine ⟨by unfold rgOk; rw [decide_eq_true_eq]; omega, ?_⟩
    refine ⟨fun items env hh => ∃ (a : Nat) (f : List Nat) (y3 y14 : Slot), a ≤ m ∧ Gr a f ∧ items = rgD (a : Nat) (m : Nat) ∧ St (b + 1 + a) hh ∧ env = gEnv ns a m f x2 y3 x5 x6 x7 x8 x9 x10 x11 y14 x15 x16 x17 x18,
      ⟨0, [], x3, x14, Nat.zero_le _, ⟨rfl, fun c hc => by simp at hc, fun z => absurd rfl z⟩, rfl, st, rfl⟩, ?_, ?_⟩
    · rintro d r env hh ⟨a, f, y3, y14, ha, g, e1, st, rfl⟩
      rcases Nat.lt_or_ge a m with q | q
      · rw [rgD_go (by omega)] at e1
        injection e1 with e5 e6
        subst e5 e6
        refine .of rfl ?_
        walk_at "mp"
        by_cases h0 : (0 : Int) < (a : Nat)
        · simp only [h0, decide_true, if_true]
          walk_at "mp"
          refine (draw_w (n := n + 5) sc (by omega) (by decide) (by unfold Bd; decide) st).imp ?_
          rintro _ hh ⟨v, rfl, v0, v1, st⟩
          refine wlt (of_decide_eq_true rfl) ?_
          refine fig_w g (by omega) v0 v1 (fun z => by omega) fun g' => ?_
          exact ⟨a + 1, _, _, _, q, g', by simp, st.mono (by omega), rfl⟩
        · simp only [h0, decide_false, Bool.false_eq_true, if_false]
          walk_at "mp"
          refine (draw_w (n := n + 5) sc (by omega) (by decide) (by unfold Bd; decide) st).imp ?_
          rintro _ hh ⟨v, rfl, v0, v1, st⟩
          refine ob_add (wlt (of_decide_eq_true rfl) ?_)
          refine fig_w g (by omega) (v := 1 + v) (by omega) (by omega) (fun z => by omega) fun g' => ?_
          exact ⟨a + 1, _, _, _, q, g', by simp, st.mono (by omega), rfl⟩
      · rw [rgD_end (by omega)] at e1
        cases e1
    · rintro env h ⟨a, f, y3, y14, ha, g, e1, st, rfl⟩
      have : a = m := by
        rcases Nat.lt_or_ge a m with q | q
        · rw [rgD_go (by omega)] at e1
          cases e1
        · omega
      subst this
      have fne : f ≠ [] := fun z => by have := g.len; rw [z] at this; simp at this; omega
      have cf : Canon f := ⟨g.dig, fne, .inr (g.hd fne)⟩
      have fl : f.length ≤ 3000 := by rw [g.len]; omega
      have pos := dv_pos g.dig fne (g.hd fne)
      walk_at "mp"
      have hp : W (run Pg fu (n + 7) "_law_power_ten" [.int (a : Nat)] h) (Is (.int ((10 ^ a : Nat) : Int)) h) := p10_w (n := n + 6) (by omega)
      with_reducible refine hp.imp ?_
      rintro d' h' ⟨e8, e9⟩
      rw [e8, e9]
      have eg : ((10 ^ a + digitsVal f : Nat) : Int) - ((10 ^ a : Nat) : Int) = ((digitsVal f : Nat) : Int) := by omega
      with_reducible refine ob_sub ?_
      rw [eg]
      walk_at "mp"
      obtain ⟨V, hV⟩ : ∃ V, V = digitsVal f := ⟨_, rfl⟩
      rw [← hV] at pos ⊢
      have en : numL V = f := by rw [hV]; exact numL_dv f cf
      have t1 : txtI ((V : Nat) : Int) = f := by unfold txtI; rw [if_neg (by omega), Int.natAbs_natCast, en]; rfl
      have t2 : txtI (-((V : Nat) : Int)) = [45] ++ f := by unfold txtI; rw [if_pos (by omega), Int.natAbs_neg, Int.natAbs_natCast, en]
      have p1 : ∀ h, W (run Pg fu (n + 7) "_law_power_ten" [.int 500] h) (Is (.int ((PW : Nat) : Int)) h) := fun h => p10_w (n := n + 6) (k := 500) (by omega)
      have p2 : ∀ h, W (run Pg fu (n + 7) "write_integer" [.int (V : Nat)] h) (Is (.str f) h) := fun h => by
        have := wi_w (n := n + 5) (h := h) (z := ((V : Nat) : Int)) (by rw [Int.natAbs_natCast, en]; exact fl)
        rw [t1] at this
        exact this
      have p3 : ∀ h, W (run Pg fu (n + 7) "write_integer" [.int (-((V : Nat) : Int))] h) (Is (.str ([45] ++ f)) h) := fun h => by
        have := wi_w (n := n + 5) (h := h) (z := -((V : Nat) : Int)) (by rw [Int.natAbs_neg, Int.natAbs_natCast, en]; exact fl)
        rw [t2] at this
        exact this
      have p4 : ∀ h, W (run Pg fu (n + 7) "read_integer" [.str f] h) (Is (.int (V : Nat)) h) := fun h => by
        have := ri_w (n := n + 6) (h := h) false g.dig fne fl
        rw [← hV] at this
        exact this
      have p5 : ∀ h, W (run Pg fu (n + 7) "read_integer" [.str ([45] ++ f)] h) (Is (.int (-((V : Nat) : Int))) h) := fun h => by
        have := ri_w (n := n + 6) (h := h) true g.dig fne fl
        rw [← hV] at this
        exact this
      have p6 : ∀ h, W (run Pg fu (n + 7) "piece" [] h) (Is (.int ((PW : Nat) : Int)) h) := fun h => piece_w (n := n + 6)
      have ls : [45].length + f.length ≤ most := lt_most (by simp; omega)
      with_reducible refine ob_strs ls ?_
      walk_at "mp"
      with_reducible refine (p1 _).imp ?_
      rintro d' h' ⟨e8, e9⟩
      rw [e8, e9]
      walk_at "mp"
      with_reducible refine (p2 _).imp ?_
      rintro d' h' ⟨e8, e9⟩
      rw [e8, e9]
      walk_at "mp"
      with_reducible refine (p4 _).imp ?_
      rintro d' h' ⟨e8, e9⟩
      rw [e8, e9]
      walk_at "mp"
      with_reducible refine (p3 _).imp ?_
      rintro d' h' ⟨e8, e9⟩
      rw [e8, e9]
      walk_at "mp"
      with_reducible refine ob_strs ls ?_
      walk_at "mp"
      with_reducible refine (p5 _).imp ?_
      rintro d' h' ⟨e8, e9⟩
      rw [e8, e9]
      walk_at "mp"
      with_reducible refine (p6 _).imp ?_
      rintro d' h' ⟨e8, e9⟩
      rw [e8, e9]
      walk_at "mp"
      have hx : W (run Pg fu (n + 7) "_law_exact" [.lst [.str f, .int (V : Nat), .str ([45] ++ f), .int (-((V : Nat) : Int)), .int ((PW : Nat) : Int)], .lst [.str f, .int (V : Nat), .str ([45] ++ f), .int (-((V : Nat) : Int)), .int ((PW : Nat) : Int)]] h) (Is (.bl true) h) := by
        have hcf : Cod f := fun c hc => by have := g.dig c hc; omega
        have he : Ex 1 (.lst [.str f, .int (V : Nat), .str ([45] ++ f), .int (-((V : Nat) : Int)), .int ((PW : Nat) : Int)]) := by
          refine .lst 0 _ (fun d hd => ?_) (by simp)
          simp only [List.mem_cons, List.not_mem_nil, or_false] at hd
          rcases hd with rfl | rfl | rfl | rfl | rfl
          · exact .str _ _ hcf
          · exact .int _ _
          · exact .str _ _ (.app (by unfold Cod; decide) hcf)
          · exact .int _ _
          · exact .int _ _
        have := ex_w he (n + 5) h
        rwa [show 1 + (n + 5) + 1 = n + 7 by omega] at this
      with_reducible refine hx.imp ?_
      rintro d' h' ⟨e8, e9⟩
      rw [e8, e9]
      walk_at "mp"
      refine w_comp ?_
      walk_at "mp"
      refine ⟨fun items acc hh => hh = h ∧ acc = [] ∧ ∀ d ∈ items, NotV d, ⟨rfl, rfl, nots⟩, ?_, ?_⟩
      · rintro d r acc hh ⟨rfl, rfl, hn⟩
        refine .of rfl ?_
        walk_at "mp"
        have := hn d (by simp) (n + 4) hh
        with_reducible refine this.imp ?_
        rintro d' h' ⟨e8, e9⟩
        rw [e8, e9]
        walk_at "mp"
        exact ⟨rfl, rfl, fun z hz => hn z (List.mem_cons_of_mem _ hz)⟩
      · rintro acc hh ⟨rfl, rfl, _⟩
        walk_at "mp"
        refine w_comp ?_
        walk_at "mp"
        refine ⟨fun items acc h2 => h2 = hh ∧ acc = [] ∧ ∀ d ∈ items, ∃ (x : List Nat × Nat), d = .tup [.str x.1, .int (x.2 : Nat)] ∧ x ∈ rowsK, ⟨rfl, rfl, ?_⟩, ?_, ?_⟩
        · intro d hd
          simp only [List.mem_cons, List.not_mem_nil, or_false] at hd
          rcases hd with rfl | rfl | rfl | rfl | rfl | rfl | rfl | rfl | rfl | rfl
          · exact ⟨([], 0), rfl, by decide⟩
          · exact ⟨([48, 49], 1), rfl, by decide⟩
          · exact ⟨([40, 49, 32, 32, 50, 41], 3), rfl, by decide⟩
          · exact ⟨([45, 48], 1), rfl, by decide⟩
          · exact ⟨([40], 1), rfl, by decide⟩
          · exact ⟨([97, 32, 98], 1), rfl, by decide⟩
          · exact ⟨([40, 97, 32, 41], 3), rfl, by decide⟩
          · exact ⟨([46, 46], 1), rfl, by decide⟩
          · exact ⟨([97, 49], 1), rfl, by decide⟩
          · exact ⟨([40, 41, 40], 2), rfl, by decide⟩
        · rintro d r acc h2 ⟨rfl, rfl, hn⟩
          obtain ⟨⟨t, k⟩, rfl, hm⟩ := hn d (by simp)
          obtain ⟨f1, f2, f3⟩ := rows_ok _ hm
          refine .of rfl ?_
          walk_at "mp"
          have := fw_w (n := n + 5) (h := h2) f2 (by have f4 : t.length ≤ 100 := f3; show t.length ≤ 100000; omega)
          rw [f1] at this
          have this : W (run Pg fu (n + 7) "first_wrong" [.str t] h2) (Is (.int (k : Nat)) h2) := this
          with_reducible refine this.imp ?_
          rintro d' h' ⟨e8, e9⟩
          rw [e8, e9]
          walk_at "mp"
          simp only [decide_true, Bool.not_true, Bool.false_eq_true, if_false]
          exact ⟨trivial, trivial, fun z hz => hn z (List.mem_cons_of_mem _ hz)⟩
        · rintro acc h2 ⟨rfl, rfl, _⟩
          walk_at "mp"
          have := ns_w (n := n + 6) (h := h2) .start (c := 32) (by decide)
          with_reducible refine this.imp ?_
          rintro d' h' ⟨e8, e9⟩
          rw [e8, e9]
          walk_at "mp"
          rfl
theorem law_run : ∀ ns : List Int, ns.length ≤ 63 → (∀ z ∈ ns, Builtin.Int.intBits z ≤ 1048576) → ∃ fuel h', run Pg fuel 10 "law" [.lst (ns.map .int)] [] = some (.bl true, h') := by
  intro ns hl hb
  have sc : Sc ns := ⟨hl, fun z hz => by
    have := hb z hz
    unfold Builtin.Int.intBits at this
    by_cases h0 : z = 0
    · rw [h0]; exact zero_bd _
    · have h1 : z.natAbs ≠ 0 := by omega
      have key : ∀ p : Nat, z.natAbs.log2 + 1 ≤ p → Bd p z := fun p hp => (Nat.log2_lt h1).mp (by omega)
      refine key _ ?_
      rw [if_neg (by simp [h0])] at this
      exact this⟩
  obtain ⟨d, h', e, rfl⟩ := law_w (n := 2) sc
  exact ⟨fu, h', e⟩
end MP.k75

namespace MP.k75
open PySem
open PySem.Spec
open PyProof.Rows
open L2
open MP
def top (i : Nat) : Stmt := PySem.Challenge.pw_wordworths_k75_whole_values_as_texts.main.body.getD i (.Pass ⟨0, 0, 0, 0⟩)
def d_is_value : He.DefD := ⟨("is_value", none), "is_value", "is_value", defArgs (top 3), defBody (top 3), defScope (top 3), [], []⟩
def d_piece : He.DefD := ⟨("piece", none), "piece", "piece", defArgs (top 4), defBody (top 4), defScope (top 4), [], []⟩
def d_write_integer : He.DefD := ⟨("write_integer", none), "write_integer", "write_integer", defArgs (top 5), defBody (top 5), defScope (top 5), [], []⟩
def d_read_integer : He.DefD := ⟨("read_integer", none), "read_integer", "read_integer", defArgs (top 6), defBody (top 6), defScope (top 6), [], []⟩
def d_write_value : He.DefD := ⟨("write_value", none), "write_value", "write_value", defArgs (top 7), defBody (top 7), defScope (top 7), [], []⟩
def d_next_state : He.DefD := ⟨("next_state", none), "next_state", "next_state", defArgs (top 8), defBody (top 8), defScope (top 8), [], []⟩
def d_first_wrong : He.DefD := ⟨("first_wrong", none), "first_wrong", "first_wrong", defArgs (top 9), defBody (top 9), defScope (top 9), [], []⟩
def d_read_value : He.DefD := ⟨("read_value", none), "read_value", "read_value", defArgs (top 10), defBody (top 10), defScope (top 10), [], []⟩
def d_value_of : He.DefD := ⟨("value_of", none), "value_of", "value_of", defArgs (top 11), defBody (top 11), defScope (top 11), [], []⟩
def d__law_refill : He.DefD := ⟨("_law_refill", none), "_law_refill", "_law_refill", defArgs (top 13), defBody (top 13), defScope (top 13), [], []⟩
def d__law_draw : He.DefD := ⟨("_law_draw", none), "_law_draw", "_law_draw", defArgs (top 14), defBody (top 14), defScope (top 14), [], []⟩
def d__law_exact : He.DefD := ⟨("_law_exact", none), "_law_exact", "_law_exact", defArgs (top 15), defBody (top 15), defScope (top 15), [], []⟩
def d__law_value : He.DefD := ⟨("_law_value", none), "_law_value", "_law_value", defArgs (top 16), defBody (top 16), defScope (top 16), [], []⟩
def d__law_text : He.DefD := ⟨("_law_text", none), "_law_text", "_law_text", defArgs (top 17), defBody (top 17), defScope (top 17), [], []⟩
def d__law_power_ten : He.DefD := ⟨("_law_power_ten", none), "_law_power_ten", "_law_power_ten", defArgs (top 18), defBody (top 18), defScope (top 18), [], []⟩
def d__law_wrong_at : He.DefD := ⟨("_law_wrong_at", none), "_law_wrong_at", "_law_wrong_at", defArgs (top 19), defBody (top 19), defScope (top 19), [], []⟩
def d_law : He.DefD := ⟨("law", none), "law", "law", defArgs (top 20), defBody (top 20), defScope (top 20), [], []⟩
def dfs : List He.DefD := [d_is_value, d_piece, d_write_integer, d_read_integer, d_write_value, d_next_state, d_first_wrong, d_read_value, d_value_of, d__law_refill, d__law_draw, d__law_exact, d__law_value, d__law_text, d__law_power_ten, d__law_wrong_at, d_law]
def fa : List He.Fa := [.glo "is_value", .glo "piece", .glo "write_integer", .glo "read_integer", .glo "write_value", .glo "next_state", .glo "first_wrong", .glo "read_value", .glo "value_of", .glo "_law_refill", .glo "_law_draw", .glo "_law_exact", .glo "_law_value", .glo "_law_text", .glo "_law_power_ten", .glo "_law_wrong_at", .glo "law", .free "isinstance", .free "tuple", .free "all", .free "str", .free "bool", .free "int", .free "abs", .free "len", .free "enumerate", .free "list", .free "range"]
def names0 : List PySem.Str := ["FIGURES", "LETTERS", "is_value", "piece", "write_integer", "read_integer", "write_value", "next_state", "first_wrong", "read_value", "value_of", "_law_refill", "_law_draw", "_law_exact", "_law_value", "_law_text", "_law_power_ten", "_law_wrong_at"]
def names : List PySem.Str := names0
abbrev R : PySem.W.OpenRow := PySem.W.OpenLaw.row PySem.Challenge.rw_wordworths_k75_whole_values_as_texts
abbrev hk : PySem.W.Hook := hookM 4 fa dfs pbf pglobs
def ob (s : PySem.W.SharedT) : He.AlX := obsM 4 fa dfs pbf pglobs (HandSHeadRun.getT s)
theorem ob_eq (s : PySem.W.SharedT) : ob s = hk.obs s.abs := He.obsX_eq (HandSHeadRun.getT_eq s)
theorem run_top (w : World) : HandSHeadRun.RunEqI R (PySem.W.view R.prog [20]) hk ob 3000 names w := by
  unfold HandSHeadRun.RunEqI
  kernel_rfl
theorem sc_is_value : FnScope f_is_value.N ["value"] d_is_value.scope := ⟨by kernel_rfl, by kernel_rfl, by kernel_rfl, by decide +kernel, by kernel_rfl, by decide +kernel, by decide +kernel⟩
theorem ck_is_value : chkSs (ctOf Pg pbf f_is_value.N d_is_value.scope) b_is_value d_is_value.body = true := by kernel_rfl
theorem sc_piece : FnScope f_piece.N [] d_piece.scope := ⟨by kernel_rfl, by kernel_rfl, by kernel_rfl, by decide +kernel, by kernel_rfl, by decide +kernel, by decide +kernel⟩
theorem ck_piece : chkSs (ctOf Pg pbf f_piece.N d_piece.scope) b_piece d_piece.body = true := by kernel_rfl
theorem sc_write_integer : FnScope f_write_integer.N ["number"] d_write_integer.scope := ⟨by kernel_rfl, by kernel_rfl, by kernel_rfl, by decide +kernel, by kernel_rfl, by decide +kernel, by decide +kernel⟩
theorem ck_write_integer : chkSs (ctOf Pg pbf f_write_integer.N d_write_integer.scope) b_write_integer d_write_integer.body = true := by kernel_rfl
theorem sc_read_integer : FnScope f_read_integer.N ["text"] d_read_integer.scope := ⟨by kernel_rfl, by kernel_rfl, by kernel_rfl, by decide +kernel, by kernel_rfl, by decide +kernel, by decide +kernel⟩
theorem ck_read_integer : chkSs (ctOf Pg pbf f_read_integer.N d_read_integer.scope) b_read_integer d_read_integer.body = true := by kernel_rfl
theorem sc_write_value : FnScope f_write_value.N ["value"] d_write_value.scope := ⟨by kernel_rfl, by kernel_rfl, by kernel_rfl, by decide +kernel, by kernel_rfl, by decide +kernel, by decide +kernel⟩
theorem ck_write_value : chkSs (ctOf Pg pbf f_write_value.N d_write_value.scope) b_write_value d_write_value.body = true := by kernel_rfl
theorem sc_next_state : FnScope f_next_state.N ["state", "sign"] d_next_state.scope := ⟨by kernel_rfl, by kernel_rfl, by kernel_rfl, by decide +kernel, by kernel_rfl, by decide +kernel, by decide +kernel⟩
theorem ck_next_state : chkSs (ctOf Pg pbf f_next_state.N d_next_state.scope) b_next_state d_next_state.body = true := by kernel_rfl
theorem sc_first_wrong : FnScope f_first_wrong.N ["text"] d_first_wrong.scope := ⟨by kernel_rfl, by kernel_rfl, by kernel_rfl, by decide +kernel, by kernel_rfl, by decide +kernel, by decide +kernel⟩
theorem ck_first_wrong : chkSs (ctOf Pg pbf f_first_wrong.N d_first_wrong.scope) b_first_wrong d_first_wrong.body = true := by kernel_rfl
theorem sc_read_value : FnScope f_read_value.N ["text"] d_read_value.scope := ⟨by kernel_rfl, by kernel_rfl, by kernel_rfl, by decide +kernel, by kernel_rfl, by decide +kernel, by decide +kernel⟩
theorem ck_read_value : chkSs (ctOf Pg pbf f_read_value.N d_read_value.scope) b_read_value d_read_value.body = true := by kernel_rfl
theorem sc_value_of : FnScope f_value_of.N ["word"] d_value_of.scope := ⟨by kernel_rfl, by kernel_rfl, by kernel_rfl, by decide +kernel, by kernel_rfl, by decide +kernel, by decide +kernel⟩
theorem ck_value_of : chkSs (ctOf Pg pbf f_value_of.N d_value_of.scope) b_value_of d_value_of.body = true := by kernel_rfl
theorem sc__law_refill : FnScope f__law_refill.N ["script", "k"] d__law_refill.scope := ⟨by kernel_rfl, by kernel_rfl, by kernel_rfl, by decide +kernel, by kernel_rfl, by decide +kernel, by decide +kernel⟩
theorem ck__law_refill : chkSs (ctOf Pg pbf f__law_refill.N d__law_refill.scope) b__law_refill d__law_refill.body = true := by kernel_rfl
theorem sc__law_draw : FnScope f__law_draw.N ["state", "script", "size"] d__law_draw.scope := ⟨by kernel_rfl, by kernel_rfl, by kernel_rfl, by decide +kernel, by kernel_rfl, by decide +kernel, by decide +kernel⟩
theorem ck__law_draw : chkSs (ctOf Pg pbf f__law_draw.N d__law_draw.scope) b__law_draw d__law_draw.body = true := by kernel_rfl
theorem sc__law_exact : FnScope f__law_exact.N ["first", "second"] d__law_exact.scope := ⟨by kernel_rfl, by kernel_rfl, by kernel_rfl, by decide +kernel, by kernel_rfl, by decide +kernel, by decide +kernel⟩
theorem ck__law_exact : chkSs (ctOf Pg pbf f__law_exact.N d__law_exact.scope) b__law_exact d__law_exact.body = true := by kernel_rfl
theorem sc__law_value : FnScope f__law_value.N ["state", "script", "depth"] d__law_value.scope := ⟨by kernel_rfl, by kernel_rfl, by kernel_rfl, by decide +kernel, by kernel_rfl, by decide +kernel, by decide +kernel⟩
theorem ck__law_value : chkSs (ctOf Pg pbf f__law_value.N d__law_value.scope) b__law_value d__law_value.body = true := by kernel_rfl
theorem sc__law_text : FnScope f__law_text.N ["value"] d__law_text.scope := ⟨by kernel_rfl, by kernel_rfl, by kernel_rfl, by decide +kernel, by kernel_rfl, by decide +kernel, by decide +kernel⟩
theorem ck__law_text : chkSs (ctOf Pg pbf f__law_text.N d__law_text.scope) b__law_text d__law_text.body = true := by kernel_rfl
theorem sc__law_power_ten : FnScope f__law_power_ten.N ["many"] d__law_power_ten.scope := ⟨by kernel_rfl, by kernel_rfl, by kernel_rfl, by decide +kernel, by kernel_rfl, by decide +kernel, by decide +kernel⟩
theorem ck__law_power_ten : chkSs (ctOf Pg pbf f__law_power_ten.N d__law_power_ten.scope) b__law_power_ten d__law_power_ten.body = true := by kernel_rfl
theorem sc__law_wrong_at : FnScope f__law_wrong_at.N ["text"] d__law_wrong_at.scope := ⟨by kernel_rfl, by kernel_rfl, by kernel_rfl, by decide +kernel, by kernel_rfl, by decide +kernel, by decide +kernel⟩
theorem ck__law_wrong_at : chkSs (ctOf Pg pbf f__law_wrong_at.N d__law_wrong_at.scope) b__law_wrong_at d__law_wrong_at.body = true := by kernel_rfl
theorem sc_law : FnScope f_law.N ["script"] d_law.scope := ⟨by kernel_rfl, by kernel_rfl, by kernel_rfl, by decide +kernel, by kernel_rfl, by decide +kernel, by decide +kernel⟩
theorem ck_law : chkSs (ctOf Pg pbf f_law.N d_law.scope) b_law d_law.body = true := by kernel_rfl
section
variable {K : PySem.W.Frag} {mg : Str → Option Value} {h : Heap}
theorem at_is_value (X : K.In h) (G : h.Ns mainGlobals mg) (c : He.SaysD fa dfs K) : ∃ d, FnAt K (csOf K dfs) mg Pg pbf f_is_value d ∧ d.ps = (["value"] : List Str) ∧ ∀ (s : Shared) (us : List Value), us.length = 1 → BindsTo s d.fd ⟨us, []⟩ (d.ps.zip us) := by
  obtain ⟨fd, F⟩ := c.def_ 0 (d := d_is_value) rfl
  exact ⟨⟨_, _, _, _, _, fd, ["value"]⟩, ⟨F, sc_is_value, rfl, He.glo_ok X G (c.fact 0 (f := .glo "is_value") rfl), F.bindsN fun _ _ _ _ _ _ us hl => (match us, hl with | [_], _ => rfl), ck_is_value, cd_of (d := d_is_value) (List.mem_of_getElem? (i := 0) rfl) F⟩, rfl, fun s us hl => FunD.bindsA (ps := ["value"]) F (fun _ _ _ _ _ _ us hl => (match us, hl with | [_], _ => rfl)) s us hl⟩
theorem at_piece (X : K.In h) (G : h.Ns mainGlobals mg) (c : He.SaysD fa dfs K) : ∃ d, FnAt K (csOf K dfs) mg Pg pbf f_piece d ∧ d.ps = ([] : List Str) ∧ ∀ (s : Shared) (us : List Value), us.length = 0 → BindsTo s d.fd ⟨us, []⟩ (d.ps.zip us) := by
  obtain ⟨fd, F⟩ := c.def_ 1 (d := d_piece) rfl
  exact ⟨⟨_, _, _, _, _, fd, []⟩, ⟨F, sc_piece, rfl, He.glo_ok X G (c.fact 1 (f := .glo "piece") rfl), F.bindsN fun _ _ _ _ _ _ us hl => (match us, hl with | [], _ => rfl), ck_piece, cd_of (d := d_piece) (List.mem_of_getElem? (i := 1) rfl) F⟩, rfl, fun s us hl => FunD.bindsA (ps := []) F (fun _ _ _ _ _ _ us hl => (match us, hl with | [], _ => rfl)) s us hl⟩
theorem at_write_integer (X : K.In h) (G : h.Ns mainGlobals mg) (c : He.SaysD fa dfs K) : ∃ d, FnAt K (csOf K dfs) mg Pg pbf f_write_integer d ∧ d.ps = (["number"] : List Str) ∧ ∀ (s : Shared) (us : List Value), us.length = 1 → BindsTo s d.fd ⟨us, []⟩ (d.ps.zip us) := by
  obtain ⟨fd, F⟩ := c.def_ 2 (d := d_write_integer) rfl
  exact ⟨⟨_, _, _, _, _, fd, ["number"]⟩, ⟨F, sc_write_integer, rfl, He.glo_ok X G (c.fact 2 (f := .glo "write_integer") rfl), F.bindsN fun _ _ _ _ _ _ us hl => (match us, hl with | [_], _ => rfl), ck_write_integer, cd_of (d := d_write_integer) (List.mem_of_getElem? (i := 2) rfl) F⟩, rfl, fun s us hl => FunD.bindsA (ps := ["number"]) F (fun _ _ _ _ _ _ us hl => (match us, hl with | [_], _ => rfl)) s us hl⟩
theorem at_read_integer (X : K.In h) (G : h.Ns mainGlobals mg) (c : He.SaysD fa dfs K) : ∃ d, FnAt K (csOf K dfs) mg Pg pbf f_read_integer d ∧ d.ps = (["text"] : List Str) ∧ ∀ (s : Shared) (us : List Value), us.length = 1 → BindsTo s d.fd ⟨us, []⟩ (d.ps.zip us) := by
  obtain ⟨fd, F⟩ := c.def_ 3 (d := d_read_integer) rfl
  exact ⟨⟨_, _, _, _, _, fd, ["text"]⟩, ⟨F, sc_read_integer, rfl, He.glo_ok X G (c.fact 3 (f := .glo "read_integer") rfl), F.bindsN fun _ _ _ _ _ _ us hl => (match us, hl with | [_], _ => rfl), ck_read_integer, cd_of (d := d_read_integer) (List.mem_of_getElem? (i := 3) rfl) F⟩, rfl, fun s us hl => FunD.bindsA (ps := ["text"]) F (fun _ _ _ _ _ _ us hl => (match us, hl with | [_], _ => rfl)) s us hl⟩
theorem at_write_value (X : K.In h) (G : h.Ns mainGlobals mg) (c : He.SaysD fa dfs K) : ∃ d, FnAt K (csOf K dfs) mg Pg pbf f_write_value d ∧ d.ps = (["value"] : List Str) ∧ ∀ (s : Shared) (us : List Value), us.length = 1 → BindsTo s d.fd ⟨us, []⟩ (d.ps.zip us) := by
  obtain ⟨fd, F⟩ := c.def_ 4 (d := d_write_value) rfl
  exact ⟨⟨_, _, _, _, _, fd, ["value"]⟩, ⟨F, sc_write_value, rfl, He.glo_ok X G (c.fact 4 (f := .glo "write_value") rfl), F.bindsN fun _ _ _ _ _ _ us hl => (match us, hl with | [_], _ => rfl), ck_write_value, cd_of (d := d_write_value) (List.mem_of_getElem? (i := 4) rfl) F⟩, rfl, fun s us hl => FunD.bindsA (ps := ["value"]) F (fun _ _ _ _ _ _ us hl => (match us, hl with | [_], _ => rfl)) s us hl⟩
theorem at_next_state (X : K.In h) (G : h.Ns mainGlobals mg) (c : He.SaysD fa dfs K) : ∃ d, FnAt K (csOf K dfs) mg Pg pbf f_next_state d ∧ d.ps = (["state", "sign"] : List Str) ∧ ∀ (s : Shared) (us : List Value), us.length = 2 → BindsTo s d.fd ⟨us, []⟩ (d.ps.zip us) := by
  obtain ⟨fd, F⟩ := c.def_ 5 (d := d_next_state) rfl
  exact ⟨⟨_, _, _, _, _, fd, ["state", "sign"]⟩, ⟨F, sc_next_state, rfl, He.glo_ok X G (c.fact 5 (f := .glo "next_state") rfl), F.bindsN fun _ _ _ _ _ _ us hl => (match us, hl with | [_, _], _ => rfl), ck_next_state, cd_of (d := d_next_state) (List.mem_of_getElem? (i := 5) rfl) F⟩, rfl, fun s us hl => FunD.bindsA (ps := ["state", "sign"]) F (fun _ _ _ _ _ _ us hl => (match us, hl with | [_, _], _ => rfl)) s us hl⟩
theorem at_first_wrong (X : K.In h) (G : h.Ns mainGlobals mg) (c : He.SaysD fa dfs K) : ∃ d, FnAt K (csOf K dfs) mg Pg pbf f_first_wrong d ∧ d.ps = (["text"] : List Str) ∧ ∀ (s : Shared) (us : List Value), us.length = 1 → BindsTo s d.fd ⟨us, []⟩ (d.ps.zip us) := by
  obtain ⟨fd, F⟩ := c.def_ 6 (d := d_first_wrong) rfl
  exact ⟨⟨_, _, _, _, _, fd, ["text"]⟩, ⟨F, sc_first_wrong, rfl, He.glo_ok X G (c.fact 6 (f := .glo "first_wrong") rfl), F.bindsN fun _ _ _ _ _ _ us hl => (match us, hl with | [_], _ => rfl), ck_first_wrong, cd_of (d := d_first_wrong) (List.mem_of_getElem? (i := 6) rfl) F⟩, rfl, fun s us hl => FunD.bindsA (ps := ["text"]) F (fun _ _ _ _ _ _ us hl => (match us, hl with | [_], _ => rfl)) s us hl⟩
theorem at_read_value (X : K.In h) (G : h.Ns mainGlobals mg) (c : He.SaysD fa dfs K) : ∃ d, FnAt K (csOf K dfs) mg Pg pbf f_read_value d ∧ d.ps = (["text"] : List Str) ∧ ∀ (s : Shared) (us : List Value), us.length = 1 → BindsTo s d.fd ⟨us, []⟩ (d.ps.zip us) := by
  obtain ⟨fd, F⟩ := c.def_ 7 (d := d_read_value) rfl
  exact ⟨⟨_, _, _, _, _, fd, ["text"]⟩, ⟨F, sc_read_value, rfl, He.glo_ok X G (c.fact 7 (f := .glo "read_value") rfl), F.bindsN fun _ _ _ _ _ _ us hl => (match us, hl with | [_], _ => rfl), ck_read_value, cd_of (d := d_read_value) (List.mem_of_getElem? (i := 7) rfl) F⟩, rfl, fun s us hl => FunD.bindsA (ps := ["text"]) F (fun _ _ _ _ _ _ us hl => (match us, hl with | [_], _ => rfl)) s us hl⟩
theorem at_value_of (X : K.In h) (G : h.Ns mainGlobals mg) (c : He.SaysD fa dfs K) : ∃ d, FnAt K (csOf K dfs) mg Pg pbf f_value_of d ∧ d.ps = (["word"] : List Str) ∧ ∀ (s : Shared) (us : List Value), us.length = 1 → BindsTo s d.fd ⟨us, []⟩ (d.ps.zip us) := by
  obtain ⟨fd, F⟩ := c.def_ 8 (d := d_value_of) rfl
  exact ⟨⟨_, _, _, _, _, fd, ["word"]⟩, ⟨F, sc_value_of, rfl, He.glo_ok X G (c.fact 8 (f := .glo "value_of") rfl), F.bindsN fun _ _ _ _ _ _ us hl => (match us, hl with | [_], _ => rfl), ck_value_of, cd_of (d := d_value_of) (List.mem_of_getElem? (i := 8) rfl) F⟩, rfl, fun s us hl => FunD.bindsA (ps := ["word"]) F (fun _ _ _ _ _ _ us hl => (match us, hl with | [_], _ => rfl)) s us hl⟩
theorem at__law_refill (X : K.In h) (G : h.Ns mainGlobals mg) (c : He.SaysD fa dfs K) : ∃ d, FnAt K (csOf K dfs) mg Pg pbf f__law_refill d ∧ d.ps = (["script", "k"] : List Str) ∧ ∀ (s : Shared) (us : List Value), us.length = 2 → BindsTo s d.fd ⟨us, []⟩ (d.ps.zip us) := by
  obtain ⟨fd, F⟩ := c.def_ 9 (d := d__law_refill) rfl
  exact ⟨⟨_, _, _, _, _, fd, ["script", "k"]⟩, ⟨F, sc__law_refill, rfl, He.glo_ok X G (c.fact 9 (f := .glo "_law_refill") rfl), F.bindsN fun _ _ _ _ _ _ us hl => (match us, hl with | [_, _], _ => rfl), ck__law_refill, cd_of (d := d__law_refill) (List.mem_of_getElem? (i := 9) rfl) F⟩, rfl, fun s us hl => FunD.bindsA (ps := ["script", "k"]) F (fun _ _ _ _ _ _ us hl => (match us, hl with | [_, _], _ => rfl)) s us hl⟩
theorem at__law_draw (X : K.In h) (G : h.Ns mainGlobals mg) (c : He.SaysD fa dfs K) : ∃ d, FnAt K (csOf K dfs) mg Pg pbf f__law_draw d ∧ d.ps = (["state", "script", "size"] : List Str) ∧ ∀ (s : Shared) (us : List Value), us.length = 3 → BindsTo s d.fd ⟨us, []⟩ (d.ps.zip us) := by
  obtain ⟨fd, F⟩ := c.def_ 10 (d := d__law_draw) rfl
  exact ⟨⟨_, _, _, _, _, fd, ["state", "script", "size"]⟩, ⟨F, sc__law_draw, rfl, He.glo_ok X G (c.fact 10 (f := .glo "_law_draw") rfl), F.bindsN fun _ _ _ _ _ _ us hl => (match us, hl with | [_, _, _], _ => rfl), ck__law_draw, cd_of (d := d__law_draw) (List.mem_of_getElem? (i := 10) rfl) F⟩, rfl, fun s us hl => FunD.bindsA (ps := ["state", "script", "size"]) F (fun _ _ _ _ _ _ us hl => (match us, hl with | [_, _, _], _ => rfl)) s us hl⟩
theorem at__law_exact (X : K.In h) (G : h.Ns mainGlobals mg) (c : He.SaysD fa dfs K) : ∃ d, FnAt K (csOf K dfs) mg Pg pbf f__law_exact d ∧ d.ps = (["first", "second"] : List Str) ∧ ∀ (s : Shared) (us : List Value), us.length = 2 → BindsTo s d.fd ⟨us, []⟩ (d.ps.zip us) := by
  obtain ⟨fd, F⟩ := c.def_ 11 (d := d__law_exact) rfl
  exact ⟨⟨_, _, _, _, _, fd, ["first", "second"]⟩, ⟨F, sc__law_exact, rfl, He.glo_ok X G (c.fact 11 (f := .glo "_law_exact") rfl), F.bindsN fun _ _ _ _ _ _ us hl => (match us, hl with | [_, _], _ => rfl), ck__law_exact, cd_of (d := d__law_exact) (List.mem_of_getElem? (i := 11) rfl) F⟩, rfl, fun s us hl => FunD.bindsA (ps := ["first", "second"]) F (fun _ _ _ _ _ _ us hl => (match us, hl with | [_, _], _ => rfl)) s us hl⟩
theorem at__law_value (X : K.In h) (G : h.Ns mainGlobals mg) (c : He.SaysD fa dfs K) : ∃ d, FnAt K (csOf K dfs) mg Pg pbf f__law_value d ∧ d.ps = (["state", "script", "depth"] : List Str) ∧ ∀ (s : Shared) (us : List Value), us.length = 3 → BindsTo s d.fd ⟨us, []⟩ (d.ps.zip us) := by
  obtain ⟨fd, F⟩ := c.def_ 12 (d := d__law_value) rfl
  exact ⟨⟨_, _, _, _, _, fd, ["state", "script", "depth"]⟩, ⟨F, sc__law_value, rfl, He.glo_ok X G (c.fact 12 (f := .glo "_law_value") rfl), F.bindsN fun _ _ _ _ _ _ us hl => (match us, hl with | [_, _, _], _ => rfl), ck__law_value, cd_of (d := d__law_value) (List.mem_of_getElem? (i := 12) rfl) F⟩, rfl, fun s us hl => FunD.bindsA (ps := ["state", "script", "depth"]) F (fun _ _ _ _ _ _ us hl => (match us, hl with | [_, _, _], _ => rfl)) s us hl⟩
theorem at__law_text (X : K.In h) (G : h.Ns mainGlobals mg) (c : He.SaysD fa dfs K) : ∃ d, FnAt K (csOf K dfs) mg Pg pbf f__law_text d ∧ d.ps = (["value"] : List Str) ∧ ∀ (s : Shared) (us : List Value), us.length = 1 → BindsTo s d.fd ⟨us, []⟩ (d.ps.zip us) := by
  obtain ⟨fd, F⟩ := c.def_ 13 (d := d__law_text) rfl
  exact ⟨⟨_, _, _, _, _, fd, ["value"]⟩, ⟨F, sc__law_text, rfl, He.glo_ok X G (c.fact 13 (f := .glo "_law_text") rfl), F.bindsN fun _ _ _ _ _ _ us hl => (match us, hl with | [_], _ => rfl), ck__law_text, cd_of (d := d__law_text) (List.mem_of_getElem? (i := 13) rfl) F⟩, rfl, fun s us hl => FunD.bindsA (ps := ["value"]) F (fun _ _ _ _ _ _ us hl => (match us, hl with | [_], _ => rfl)) s us hl⟩
theorem at__law_power_ten (X : K.In h) (G : h.Ns mainGlobals mg) (c : He.SaysD fa dfs K) : ∃ d, FnAt K (csOf K dfs) mg Pg pbf f__law_power_ten d ∧ d.ps = (["many"] : List Str) ∧ ∀ (s : Shared) (us : List Value), us.length = 1 → BindsTo s d.fd ⟨us, []⟩ (d.ps.zip us) := by
  obtain ⟨fd, F⟩ := c.def_ 14 (d := d__law_power_ten) rfl
  exact ⟨⟨_, _, _, _, _, fd, ["many"]⟩, ⟨F, sc__law_power_ten, rfl, He.glo_ok X G (c.fact 14 (f := .glo "_law_power_ten") rfl), F.bindsN fun _ _ _ _ _ _ us hl => (match us, hl with | [_], _ => rfl), ck__law_power_ten, cd_of (d := d__law_power_ten) (List.mem_of_getElem? (i := 14) rfl) F⟩, rfl, fun s us hl => FunD.bindsA (ps := ["many"]) F (fun _ _ _ _ _ _ us hl => (match us, hl with | [_], _ => rfl)) s us hl⟩
theorem at__law_wrong_at (X : K.In h) (G : h.Ns mainGlobals mg) (c : He.SaysD fa dfs K) : ∃ d, FnAt K (csOf K dfs) mg Pg pbf f__law_wrong_at d ∧ d.ps = (["text"] : List Str) ∧ ∀ (s : Shared) (us : List Value), us.length = 1 → BindsTo s d.fd ⟨us, []⟩ (d.ps.zip us) := by
  obtain ⟨fd, F⟩ := c.def_ 15 (d := d__law_wrong_at) rfl
  exact ⟨⟨_, _, _, _, _, fd, ["text"]⟩, ⟨F, sc__law_wrong_at, rfl, He.glo_ok X G (c.fact 15 (f := .glo "_law_wrong_at") rfl), F.bindsN fun _ _ _ _ _ _ us hl => (match us, hl with | [_], _ => rfl), ck__law_wrong_at, cd_of (d := d__law_wrong_at) (List.mem_of_getElem? (i := 15) rfl) F⟩, rfl, fun s us hl => FunD.bindsA (ps := ["text"]) F (fun _ _ _ _ _ _ us hl => (match us, hl with | [_], _ => rfl)) s us hl⟩
theorem at_law (X : K.In h) (G : h.Ns mainGlobals mg) (c : He.SaysD fa dfs K) : ∃ d, FnAt K (csOf K dfs) mg Pg pbf f_law d ∧ d.ps = (["script"] : List Str) ∧ ∀ (s : Shared) (us : List Value), us.length = 1 → BindsTo s d.fd ⟨us, []⟩ (d.ps.zip us) := by
  obtain ⟨fd, F⟩ := c.def_ 16 (d := d_law) rfl
  exact ⟨⟨_, _, _, _, _, fd, ["script"]⟩, ⟨F, sc_law, rfl, He.glo_ok X G (c.fact 16 (f := .glo "law") rfl), F.bindsN fun _ _ _ _ _ _ us hl => (match us, hl with | [_], _ => rfl), ck_law, cd_of (d := d_law) (List.mem_of_getElem? (i := 16) rfl) F⟩, rfl, fun s us hl => FunD.bindsA (ps := ["script"]) F (fun _ _ _ _ _ _ us hl => (match us, hl with | [_], _ => rfl)) s us hl⟩
theorem surr (X : K.In h) (G : h.Ns mainGlobals mg) (c : He.SaysD fa dfs K) (x : extra pbf pglobs K = true) : Surr K (csOf K dfs) mg Pg pbf where
  free := fun y hy => by
    have key : ∀ z ∈ pfree, fa.any (fun q => match q with | .free u => decide (u = z) | _ => false) = true := by decide +kernel
    obtain ⟨q, hq, e⟩ := List.any_eq_true.mp (key y hy)
    have c1 := (He.ba (show ((fa.all fun f => f.ok K) && dfs.all fun d => d.ok K) = true from congrArg (fun z : He.AlD => z.1) c)).1
    have c2 := List.all_eq_true.mp c1 q hq
    cases q <;> first | (cases e; done) | skip
    have e2 := of_decide_eq_true e
    subst e2
    exact He.free_ok X G c2
  bfn := extra_bf X G x
  glob := extra_glob X G x
  fn := fun f fn hf => by
    have key : ∀ fn ∈ Pg.fns, ∃ d, FnAt K (csOf K dfs) mg Pg pbf fn d := by
      intro fn hf
      unfold Pg at hf
      simp only [List.mem_cons, List.not_mem_nil, or_false] at hf
      rcases hf with rfl | rfl | rfl | rfl | rfl | rfl | rfl | rfl | rfl | rfl | rfl | rfl | rfl | rfl | rfl | rfl | rfl
      · obtain ⟨d, A, _⟩ := at_is_value X G c; exact ⟨d, A⟩
      · obtain ⟨d, A, _⟩ := at_piece X G c; exact ⟨d, A⟩
      · obtain ⟨d, A, _⟩ := at_write_integer X G c; exact ⟨d, A⟩
      · obtain ⟨d, A, _⟩ := at_read_integer X G c; exact ⟨d, A⟩
      · obtain ⟨d, A, _⟩ := at_write_value X G c; exact ⟨d, A⟩
      · obtain ⟨d, A, _⟩ := at_next_state X G c; exact ⟨d, A⟩
      · obtain ⟨d, A, _⟩ := at_first_wrong X G c; exact ⟨d, A⟩
      · obtain ⟨d, A, _⟩ := at_read_value X G c; exact ⟨d, A⟩
      · obtain ⟨d, A, _⟩ := at_value_of X G c; exact ⟨d, A⟩
      · obtain ⟨d, A, _⟩ := at__law_refill X G c; exact ⟨d, A⟩
      · obtain ⟨d, A, _⟩ := at__law_draw X G c; exact ⟨d, A⟩
      · obtain ⟨d, A, _⟩ := at__law_exact X G c; exact ⟨d, A⟩
      · obtain ⟨d, A, _⟩ := at__law_value X G c; exact ⟨d, A⟩
      · obtain ⟨d, A, _⟩ := at__law_text X G c; exact ⟨d, A⟩
      · obtain ⟨d, A, _⟩ := at__law_power_ten X G c; exact ⟨d, A⟩
      · obtain ⟨d, A, _⟩ := at__law_wrong_at X G c; exact ⟨d, A⟩
      · obtain ⟨d, A, _⟩ := at_law X G c; exact ⟨d, A⟩
    exact key fn (get_mem hf)
end
end MP.k75
open PySem
open PySem.W
open PySem.Calls
open PyProof.Rows
theorem PySem.Challenge.cw_wordworths_k75_whole_values_as_texts_holds : PySem.Challenge.rw_wordworths_k75_whole_values_as_texts.Holds := by
  w_on; o_law
  refine HandSHeadRun.head_imp (r := OpenLaw.row PySem.Challenge.rw_wordworths_k75_whole_values_as_texts) (q := view (OpenLaw.row PySem.Challenge.rw_wordworths_k75_whole_values_as_texts).prog [20]) (H := MP.k75.hk) (ob := MP.k75.ob) (M := 3000) (loose := MP.k75.names) (d := HandSHeadRun.topDef (OpenLaw.row PySem.Challenge.rw_wordworths_k75_whole_values_as_texts).prog 20) (kwd := []) MP.k75.ob_eq
    MP.k75.run_top (by kernel_rfl) (by kernel_rfl) (by kernel_rfl) (by rfl) (by first | assumption | decide +kernel) (by decide +kernel) ⟨rfl, rfl, rfl, rfl, rfl, by decide +kernel⟩ ?hw ?hc
  case hw => w_witness2
  case hc =>
    have en : (HandSHeadRun.topDef (OpenLaw.row PySem.Challenge.rw_wordworths_k75_whole_values_as_texts).prog 20).name = ("law" : PySem.Str) := by kernel_rfl
    refine MP.walk (l := PySem.Challenge.rw_wordworths_k75_whole_values_as_texts) (n := 63) (k := 10) (Pg := MP.k75.Pg) (bf := MP.k75.pbf) (f := "law") (fn := MP.k75.f_law) rfl (by decide) (by kernel_rfl) ⟨rfl, by decide, by decide⟩ (by kernel_rfl) rfl (by first | (rw [en]; done) | (rw [en]; rfl)) ?F MP.k75.law_run
    intro w mg fa h Y G hmg
    obtain ⟨K, KX, sx⟩ := Y
    have c := sx.t.d
    have x := sx.more
    obtain ⟨d, A, hps, hb⟩ := MP.k75.at_law KX G c
    exact ⟨K, MP.csOf K MP.k75.dfs, KX, fun a o e => MP.extra_list x e, MP.k75.surr KX G c x, MP.cs_empty sx, MP.cs_out sx, MP.cs_hd KX sx, d, "script", A, hps, fun s u => by have := hb s [u] rfl; rw [hps] at this; exact this⟩

