import PyProof.Rows.All
import Wide.All
import OpenK.AllK
import Wide.FinOn
import HandS.TupMul
import PySem.Str
import PySem.PyData
import PyProof.Lay0
import PyProof.P3Statements
import PyProof.EqLayable
import HandS.Text
import HandS.ForMost
import HandS.Walk
import HandS.HeadHook4
import HandS.HeadWalk
import KE.KStateDown
import HandS.Head0
import HandS.Head1
import HandS.Head2
import HandS.Head3
import HandS.HeadEnd
import HandS.ForExc
import HandS.Flow
import HandS.Style
import HandS.Wide
import HandS.Gcd
import HandS.IsInst
import HandS.TupAny
import HandS.Deep
import HandS.Lambda
import HandS.ExcIs
import HandS.ExcCtx
import HandS.HotCalls
import HandS.CallLocal
import HandS.RevTup
import HandS.Zip
import KE.KTupSum
import HandS.Strs
import HandS.SetFor
import HandS.Conv
import HandS.Defaults
import HandS.EndBits
import PySem.Challenge.RW_chanceskept_k28_whole_last_of_all
set_option Elab.async false
set_option linter.all false
section
set_option maxRecDepth 100000
set_option maxHeartbeats 4000000
namespace VI
open PySem PySem.Spec PyProof.Rows L2
/-! ### a tuple, repeated: once, never, or often -/
theorem mulT_same (l : Addr) (items : Array Value) (n : Nat) (dd : Option Addr) (sl : Array (Option Value)) (x : Int) (u : Tok) (a0 : (decide (x < -(2 ^ 63)) || decide (x ≥ 2 ^ 63)) = false) (a1 : (items.isEmpty || x == 1) = true) :
    Meets (Builtin.«tuple.__mul__» ⟨[.ref l, .int x u], []⟩) (fun _ R s => s.heap.get? l = some { cls := .type "tuple", dict := dd, data := .seq items n, slots := sl } ∧ R (.ok (.ret (Value.ref l))) s) :=
  .of_wp fun prog w A R s h => by
    obtain ⟨hp, g, d, tk, os⟩ := s; obtain ⟨hl, h⟩ := h
    have f1 := AutoSeq1.idx_int
    wp_walk using wpAny_loadPart' hl
    refine wpAny_ite_false (by first | exact decide_eq_false (by rw [a0]; simp) | rw [a0]; simp) ?_
    wp_walk using wpAny_loadPart' hl
    exact ⟨_, rfl, h⟩
theorem mulT_none (l : Addr) (items : Array Value) (n : Nat) (dd : Option Addr) (sl : Array (Option Value)) (x : Int) (u : Tok) (a0 : (decide (x < -(2 ^ 63)) || decide (x ≥ 2 ^ 63)) = false) (a1 : (items.isEmpty || x == 1) = false) (a2 : (decide (x ≤ 0) || items.isEmpty) = true) :
    Meets (Builtin.«tuple.__mul__» ⟨[.ref l, .int x u], []⟩) (fun _ R s => s.heap.get? l = some { cls := .type "tuple", dict := dd, data := .seq items n, slots := sl } ∧
      R (.ok (.ret (Value.ref s.heap.objs.size))) { s with heap := s.heap.push { cls := Value.type "tuple", data := Data.seq #[] }, toks := s.toks }) :=
  .of_wp fun prog w A R s h => by
    obtain ⟨hp, g, d, tk, os⟩ := s; obtain ⟨hl, h⟩ := h
    have f1 := AutoSeq1.idx_int
    wp_walk using wpAny_loadPart' hl
    refine wpAny_ite_false (by first | exact decide_eq_false (by rw [a0]; simp) | rw [a0]; simp) ?_
    wp_walk using wpAny_loadPart' hl
    exact ⟨_, rfl, h⟩
def rTimes (K : PySem.W.Frag) : R2 := fun x y H Q => ∃ l k xs, x = .ref l ∧ y = .int k ∧ SqT K H l xs ∧ -(2 ^ 62) ≤ k ∧ k ≤ 1000 ∧ xs.length ≤ 1000 ∧ (xs = [] ∨ k = 1 → Q (.ref l) H) ∧ (xs ≠ [] → k ≠ 1 → ∀ p, H p = none → Q (.ref p) (upd H p (.tup (List.replicate k.toNat xs).flatten)))
theorem op_timesT {X : Cx} : OpR X (binaryOp .Mult) (rTimes X.K) := by
  intro pins s σ H x y v u Q I rx ry h
  obtain ⟨l, k, xs, rfl, rfl, hT, h1, h2, hz, q1, q2⟩ := h
  by_cases hb : xs ≠ [] ∧ 2 ≤ k
  · exact op_repT pins s σ H _ _ v u Q I rx ry ⟨l, k, xs, rfl, rfl, hT, hb.1, hb.2, h2, hz, q2 hb.1 (by omega)⟩
  cases rx
  obtain ⟨t, rfl⟩ := ry
  obtain ⟨its, r, ⟨⟨cls, dd, data, sl⟩, ho, hc, n, hd⟩, hs⟩ := I.tuple hT
  simp only at hc hd
  subst hc; subst hd
  have hle := r.length
  have c0 : (decide (k < -(2 ^ 63)) || decide (k ≥ 2 ^ 63)) = false := by rw [decide_eq_false (by omega), decide_eq_false (by omega)]; rfl
  have emp : its.toArray.isEmpty = true ↔ xs = [] := by
    cases its with
    | nil => simp only [List.length_nil, List.length_eq_zero_iff] at hle; simp [hle]
    | cons a b =>
      cases xs with
      | nil => simp at hle
      | cons _ _ => simp
  by_cases hs1 : xs = [] ∨ k = 1
  · have a1 : (its.toArray.isEmpty || k == 1) = true := by
      rcases hs1 with z | z
      · rw [emp.mpr z]; rfl
      · subst z; simp
    refine wpAny_binaryOp_repeat_ref (T := "tuple") (U := "int") (by decide) ⟨_, ho, rfl⟩ (fun s' => typeIs_int s' k t) noFill_tuple_mul F.fills_int_mul F.slot_int_rmul repeat_tuple F.slot_int_index.lookup
      (call_meets F.slot_int_rmul (typeIs_int s k t) F.entry_int_rmul (F.args_int_rmul_2 _ _) (int_rmul_tuple k t l its.toArray n dd sl) ⟨ho, rfl, ⟨_, ho, rfl⟩, call_meets F.slot_tuple_mul ⟨_, ho, rfl⟩ F.entry_tuple_mul (F.args_tuple_mul_2 _ _) (mulT_same l its.toArray n dd sl k t c0 a1) ⟨ho, ?_⟩⟩)
    exact ⟨.ref l, H, I, rfl, q1 hs1⟩
  · have hx : xs ≠ [] := fun z => hs1 (.inl z)
    have hk : k ≠ 1 := fun z => hs1 (.inr z)
    have hk0 : k ≤ 0 := by
      by_cases z : 2 ≤ k
      · exact absurd ⟨hx, z⟩ hb
      · omega
    have e0 : its.toArray.isEmpty = false := by
      cases z : its.toArray.isEmpty with
      | true => exact absurd (emp.mp z) hx
      | false => rfl
    have a1 : (its.toArray.isEmpty || k == 1) = false := by rw [e0, Bool.false_or]; exact beq_eq_false_iff_ne.mpr hk
    have a2 : (decide (k ≤ 0) || its.toArray.isEmpty) = true := by rw [decide_eq_true hk0]; rfl
    refine wpAny_binaryOp_repeat_ref (T := "tuple") (U := "int") (by decide) ⟨_, ho, rfl⟩ (fun s' => typeIs_int s' k t) noFill_tuple_mul F.fills_int_mul F.slot_int_rmul repeat_tuple F.slot_int_index.lookup
      (call_meets F.slot_int_rmul (typeIs_int s k t) F.entry_int_rmul (F.args_int_rmul_2 _ _) (int_rmul_tuple k t l its.toArray n dd sl) ⟨ho, rfl, ⟨_, ho, rfl⟩, call_meets F.slot_tuple_mul ⟨_, ho, rfl⟩ F.entry_tuple_mul (F.args_tuple_mul_2 _ _) (mulT_none l its.toArray n dd sl k t c0 a1 a2) ⟨ho, ?_⟩⟩)
    have e3 : (List.replicate k.toNat xs).flatten = [] := by rw [show k.toNat = 0 by omega]; rfl
    have q := q2 hx hk
    rw [e3] at q
    exact ⟨.ref s.heap.objs.size, _, I.laid (t' := s.toks) (o := .tup []) (fun b ob z => Heap.get?_push_of_some _ z) (Nat.le_refl _) ⟨by simp, [], .nil, IsTup.new _ _⟩, rfl, q _ (I.hok.fresh (Nat.le_refl _))⟩
end VI
end
section
/-! VI: a small pure interpreter of a part of Python: values without a heap. -/
namespace VI
open PySem

/-- a value: lists are told by what is in them -/
inductive D where
  | non | bl (b : Bool) | int (i : Int) | str (s : Str) | tup (xs : List D) | lst (xs : List D) | fn (k : Nat) | cup | exn (k : Nat)
  deriving Inhabited

/-- an end: a value, an error of the class c, or stuck; w: what the one shared list (the cup) holds -/
inductive R (α : Type) where
  | ok (a : α) (w : List D) | ex (c : Nat) (w : List D) | no
def M (α : Type) := List D → R α
@[inline] def M.pure {α : Type} (a : α) : M α := fun w => .ok a w
@[inline] def M.bind {α β : Type} (x : M α) (f : α → M β) : M β := fun w => match x w with
  | .ok a w' => f a w'
  | .ex c w' => .ex c w'
  | .no => .no
instance : Monad M where
  pure := M.pure
  bind := M.bind
def M.no {α : Type} : M α := fun _ => .no
/-- nothing may be raised -/
def M.calm {α : Type} (x : M α) : M α := fun w => match x w with
  | .ok a w' => .ok a w'
  | _ => .no
def M.ex {α : Type} (c : Nat) : M α := fun w => .ex c w
def liftO {α : Type} (o : Option α) : M α := match o with | some a => M.pure a | none => M.no

inductive BOp | add | sub | mul | fdiv | mod | pow
inductive COp | eq | ne | lt | le | gt | ge | inn | notin | is | isnot
inductive Ty | int | bool | tuple | list | str
  deriving DecidableEq
inductive Bi | len | abs | min | max | sum | sorted | list | tuple | all | any | int | gcd | zip | enum | range | combos

mutual
inductive E where
  | var (i : Nat) | con (d : D)
  | bin (o : BOp) (a b : E) | neg (a : E) | not (a : E)
  | cmp (o : COp) (a b : E) | chain (o1 o2 : COp) (a b c : E)
  | and (a b : E) | or (a b : E) | ite (c a b : E)
  | tup (es : Es) | lst (es : Es)
  | idx (a b : E) | slLo (a lo : E) | slHi (a hi : E) | slBo (a lo hi : E) | rev (a : E)
  | call (f : Nat) (es : Es) | callv (i : Nat) (es : Es)
  | bi (b : Bi) (es : Es) | isi (a : E) (ts : List Ty)
  | comp (elt : E) (t : T) (it : E) | compIf (elt : E) (t : T) (it : E) (c : E)
  | comp2 (elt : E) (t : T) (it : E) (t2 : T) (it2 : E)
  | mcount (a b : E) | mindex (a b : E) | mjoin (a b : E) | sset (a : E) | rg (t : Bool) (a b : E) | chain3 (o1 o2 o3 : COp) (a b c d : E)
  | err (g : Nat) (body : E) | isx (i : Nat) (ks : List Nat)
inductive Es where | nil | cons (e : E) (es : Es)
/-- a target: a slot, or several targets -/
inductive T where | nm (i : Nat) | tp (ts : Ts)
inductive Ts where | nil | cons (t : T) (ts : Ts)
end
mutual
def T.slots : T → List Nat
  | .nm i => [i]
  | .tp ts => ts.slots
def Ts.slots : Ts → List Nat
  | .nil => []
  | .cons t ts => t.slots ++ ts.slots
end
def Ts.len : Ts → Nat
  | .nil => 0
  | .cons _ ts => ts.len + 1
def Es.len : Es → Nat
  | .nil => 0
  | .cons _ es => es.len + 1
mutual
inductive S where
  | asg (t : T) (e : E)
  | par (ts : List Nat) (es : Es)
  | setI (x : Nat) (i e : E)
  | setC (x : Nat) (i e : E)
  | app (x : Nat) (e : E)
  | expr (e : E) | ite (c : E) (a b : Ss)
  | for (t : T) (it : E) (b : Ss) | while (c : E) (b : Ss)
  | ret (e : E) | retN | raise (c : Nat) | brk | cont | pass
  | mkcup (x y : Nat)
inductive Ss where | nil | cons (s : S) (ss : Ss)
end

/-! ### data -/
mutual
def toPy : D → Option PyData
  | .non => some .none
  | .bl b => some (.bool b)
  | .int i => some (.int i)
  | .str s => some (.str s)
  | .tup xs => (toPys xs).map .tuple
  | .lst xs => (toPys xs).map .list
  | .fn _ => none
  | .cup => none
  | .exn _ => none
def toPys : List D → Option (List PyData)
  | [] => some []
  | x :: xs => match toPy x, toPys xs with
    | some d, some ds => some (d :: ds)
    | _, _ => none
end
def line : Nat := 16777216
/-- == -/
def eqD (x y : D) : Option Bool := match toPy x, toPy y with
  | some d, some e => if SeqAt.shaped d && SeqAt.shaped e then some (PyData.eqv d e) else none
  | _, _ => none
def mulOk (i j : Int) : Bool := decide (i.natAbs.log2 + j.natAbs.log2 < 134217000)
def divOk (j : Int) : Bool := decide (j ≠ 0) && decide (j.natAbs.log2 < 9000)
def powOk (i j : Int) : Bool := decide (0 ≤ j) && decide (j ≤ 1000000) && decide (i.natAbs < 2 ^ 64)
def small (i : Int) : Bool := decide (-(2 ^ 62) ≤ i) && decide (i < 2 ^ 62)
def reps {α : Type} (n : Nat) (xs : List α) : List α := (List.replicate n xs).flatten
def binD : BOp → D → D → Option D
  | .add, .int i, .int j => some (.int (i + j))
  | .add, .str s, .str t => if s.length + t.length ≤ line then some (.str (s ++ t)) else none
  | .add, .tup xs, .tup ys => if xs.length + ys.length ≤ line then some (.tup (xs ++ ys)) else none
  | .add, .lst xs, .lst ys => if xs.length + ys.length ≤ line then some (.lst (xs ++ ys)) else none
  | .sub, .int i, .int j => some (.int (i - j))
  | .mul, .int i, .int j => if mulOk i j then some (.int (i * j)) else none
  | .mul, .tup xs, .int k => if decide (-(2 ^ 62) ≤ k) && decide (k ≤ 1000) && decide (xs.length ≤ 1000) then some (.tup (reps k.toNat xs)) else none
  | .mul, .lst xs, .int k => if small k && decide (xs.length * k.toNat ≤ line) then some (.lst (reps k.toNat xs)) else none
  | .fdiv, .int i, .int j => if divOk j then some (.int (i.fdiv j)) else none
  | .mod, .int i, .int j => if j ≠ 0 then some (.int (i.fmod j)) else none
  | .pow, .int i, .int j => if powOk i j then some (.int (i ^ j.toNat)) else none
  | _, _, _ => none
def negD : D → Option D
  | .int i => some (.int (-i))
  | _ => none
/-- the order of whole numbers, texts, tuples and lists of these -/
def ltLen (n m : Nat) : Bool := decide (n < m)
mutual
def ltD : D → D → Option Bool
  | .int i, .int j => some (decide (i < j))
  | .str s, .str t => some (decide (s.cps.toList < t.cps.toList))
  | .tup xs, .tup ys => ltDs xs ys
  | _, _ => none
def ltDs : List D → List D → Option Bool
  | [], [] => some false
  | [], _ :: _ => some true
  | _ :: _, [] => some false
  | x :: xs, y :: ys => match eqD x y with
    | some true => ltDs xs ys
    | some false => ltD x y
    | none => none
end
/-- x in ys -/
def inD (x : D) (ys : List D) : Option Bool := match toPy x, toPys ys with
  | some d, some ds => if SeqAt.shaped d && SeqAt.shaped (.list ds) then some (ds.any fun z => PyData.eqv z d) else none
  | _, _ => none
def isSeq : D → Option (List D)
  | .tup xs => some xs
  | .lst xs => some xs
  | _ => none
def isNon : D → Bool
  | .non => true
  | _ => false
def cmpD : COp → D → D → Option Bool
  | .eq, x, y => eqD x y
  | .ne, x, y => (eqD x y).map (!·)
  | .lt, .int i, .int j => some (decide (i < j))
  | .le, .int i, .int j => some (decide (i ≤ j))
  | .gt, .int i, .int j => some (decide (j < i))
  | .ge, .int i, .int j => some (decide (j ≤ i))
  | .inn, x, y => (isSeq y).bind fun ys => inD x ys
  | .notin, x, y => ((isSeq y).bind fun ys => inD x ys).map (!·)
  | .is, x, .non => some (isNon x)
  | .isnot, x, .non => some (!isNon x)
  | _, _, _ => none
def ixN (n : Nat) (i : Int) : Option Nat := if 0 ≤ i then (if i < n then some i.toNat else none) else if -(n : Int) ≤ i then some (i + n).toNat else none
def idxD : D → D → Option D
  | .tup xs, .int i => (ixN xs.length i).bind fun j => xs[j]?
  | .lst xs, .int i => (ixN xs.length i).bind fun j => xs[j]?
  | _, _ => none
/-- a slice's end within 0 .. n -/
def sIx (n : Nat) (d : Nat) : Option Int → Nat
  | none => d
  | some i => if i < 0 then (i + n).toNat else min i.toNat n
def cut {α : Type} (xs : List α) (lo hi : Option Int) : List α := (xs.drop (sIx xs.length 0 lo)).take (sIx xs.length xs.length hi - sIx xs.length 0 lo)
def cutD : D → Option Int → Option Int → Option D
  | .tup xs, lo, hi => some (.tup (cut xs lo hi))
  | .lst xs, lo, hi => some (.lst (cut xs lo hi))
  | _, _, _ => none
def revD : D → Option D
  | .tup xs => some (.tup xs.reverse)
  | .lst xs => some (.lst xs.reverse)
  | _ => none
def intsD : List D → Option (List Int)
  | [] => some []
  | .int i :: xs => (intsD xs).map (i :: ·)
  | _ :: _ => none
def blsD : List D → Option (List Bool)
  | [] => some []
  | .bl i :: xs => (blsD xs).map (i :: ·)
  | _ :: _ => none
def tyOf : D → Ty → Option Bool
  | .non, _ => some false
  | .bl _, t => some (t == .bool || t == .int)
  | .int _, t => some (t == .int)
  | .str _, t => some (t == .str)
  | .tup _, t => some (t == .tuple)
  | .lst _, t => some (t == .list)
  | _, _ => none
def isiD (x : D) : List Ty → Option Bool
  | [] => some false
  | t :: ts => match tyOf x t with
    | some true => some true
    | some false => isiD x ts
    | none => none
/-- lo, lo + c, .. -/
def rangeD (lo hi c : Int) : Option (List D) :=
  if !(small lo && small hi && decide (c = 1 ∨ c = -1)) then none
  else if c = 1 then some ((List.range (hi - lo).toNat).map fun (i : Nat) => D.int (lo + (i : Int)))
  else some ((List.range (lo - hi).toNat).map fun (i : Nat) => D.int (lo - (i : Int)))
def leI (a b : Int) : Bool := decide (a ≤ b)
def insI (a : Int) : List Int → List Int
  | [] => [a]
  | b :: l => if a ≤ b then a :: b :: l else b :: insI a l
def sortI : List Int → List Int
  | [] => []
  | a :: l => insI a (sortI l)
/-- list(range(lo, hi)), tuple(range(lo, hi)) -/
def rgD (t : Bool) : D → D → Option D
  | .int lo, .int hi => if small lo && small hi && decide ((hi - lo).toNat ≤ 16777216) then some ((if t then D.tup else D.lst) (((List.range (hi - lo).toNat).map fun (i : Nat) => lo + (i : Int)).map D.int)) else none
  | _, _ => none
/-- the first place of d -/
def findEq (d : PyData) : List PyData → Option Nat
  | [] => none
  | z :: zs => if PyData.eqv z d then some 0 else (findEq d zs).map (· + 1)
def indexD (xs : List D) (y : D) : Option D := match toPys xs, toPy y with
  | some ds, some d => if SeqAt.shaped (.list ds) && SeqAt.shaped d then (findEq d ds).map fun j => .int (j : Nat) else none
  | _, _ => none
/-- sorted(set(t)) -/
def insU (a : Int) : List Int → List Int
  | [] => [a]
  | b :: l => if a < b then a :: b :: l else if a = b then b :: l else b :: insU a l
def ssetI : List Int → List Int
  | [] => []
  | a :: l => insU a (ssetI l)
def ssetD : D → Option D
  | .tup xs => (intsD xs).bind fun is => if is.length ≤ 63 then some (.lst ((ssetI is).map .int)) else none
  | _ => none
def biD : Bi → List D → Option D
  | .len, [x] => (isSeq x).map fun xs => .int xs.length
  | .abs, [.int i] => some (.int (if i < 0 then -i else i))
  | .max, [.int i, .int j] => some (.int (if j > i then j else i))
  | .min, [.int i, .int j] => some (.int (if j < i then j else i))
  | .max, [.lst xs] => match intsD xs with
    | some (i :: is) => some (.int (is.foldl (fun a b => if b > a then b else a) i))
    | _ => none
  | .min, [.lst xs] => match intsD xs with
    | some (i :: is) => some (.int (is.foldl (fun a b => if b < a then b else a) i))
    | _ => none
  | .sum, [.lst xs] => (intsD xs).map fun is => .int is.sum
  | .max, [.tup xs] => match intsD xs with
    | some (i :: is) => some (.int (is.foldl (fun a b => if b > a then b else a) i))
    | _ => none
  | .min, [.tup xs] => match intsD xs with
    | some (i :: is) => some (.int (is.foldl (fun a b => if b < a then b else a) i))
    | _ => none
  | .sum, [.tup xs] => (intsD xs).map fun is => .int is.sum
  | .sorted, [.lst xs] => ((intsD xs).bind fun is => if is.length < 64 then some is else none).map fun is => .lst ((sortI is).map .int)
  | .list, [x] => (isSeq x).map .lst
  | .tuple, [x] => (isSeq x).map .tup
  | .all, [.lst xs] => (blsD xs).map fun bs => .bl (bs.all id)
  | .any, [.lst xs] => (blsD xs).map fun bs => .bl (bs.any id)
  | .int, [.int i] => some (.int i)
  | .int, [.bl b] => some (.int (if b then 1 else 0))
  | .gcd, [.int i, .int j] => some (.int (Nat.gcd i.natAbs j.natAbs : Nat))
  | .zip, [.lst xs, .lst ys] => some (.lst ((xs.zip ys).map fun p => .tup [p.1, p.2]))
  | .zip, [.tup xs, .tup ys] => some (.lst ((xs.zip ys).map fun p => .tup [p.1, p.2]))
  | .enum, [.lst xs] => some (.lst (xs.zipIdx.map fun p => .tup [.int (p.2 : Nat), p.1]))
  | .range, [.int n] => (rangeD 0 n 1).map .lst
  | .range, [.int a, .int b] => (rangeD a b 1).map .lst
  | .range, [.int a, .int b, .int c] => (rangeD a b c).map .lst
  | _, _ => none

/-! ### running -/
abbrev Env := List (Option D)
def getV (env : Env) (i : Nat) : M D := match env[i]? with
  | some (some d) => M.pure d
  | _ => M.no
def truth : D → M Bool
  | .bl b => M.pure b
  | _ => M.no
def toInt : D → M Int
  | .int i => M.pure i
  | _ => M.no
mutual
def bindT : T → D → Env → Option Env
  | .nm i, d, env => some (env.set i (some d))
  | .tp ts, d, env => match d with
    | .tup xs => bindTs ts xs env
    | _ => none
def bindTs : Ts → List D → Env → Option Env
  | .nil, [], env => some env
  | .cons t ts, x :: xs, env => match bindT t x env with
    | some e => bindTs ts xs e
    | none => none
  | _, _, _ => none
end
/-- the items that a loop walks -/
def walkD (x : D) : M (List D) := liftO (isSeq x)
def compL (f : D → M D) : List D → M (List D)
  | [] => M.pure []
  | x :: xs => M.bind (f x) fun y => M.bind (compL f xs) fun ys => M.pure (y :: ys)
def compIfL (c : D → M Bool) (f : D → M D) : List D → M (List D)
  | [] => M.pure []
  | x :: xs => M.bind (c x) fun b => if b then M.bind (f x) fun y => M.bind (compIfL c f xs) fun ys => M.pure (y :: ys) else compIfL c f xs
def catL (f : D → M (List D)) : List D → M (List D)
  | [] => M.pure []
  | x :: xs => M.bind (f x) fun y => M.bind (catL f xs) fun ys => M.pure (y ++ ys)
def few {α : Type} (xs : List α) : M Unit := if xs.length < line then M.pure () else M.no
/-- the shared list -/
def readCup (x i : D) : M D := match x with
  | .cup => fun w => match i with
    | .int j => match (ixN w.length j).bind fun k => w[k]? with
      | some d => .ok d w
      | none => .no
    | _ => .no
  | _ => liftO (idxD x i)
def strsD : List D → Option (List Str)
  | [] => some []
  | .str s :: xs => (strsD xs).map (s :: ·)
  | _ :: _ => none
/-- sep.join(list) -/
def joinD : D → D → Option D
  | .str s, .lst xs => (strsD xs).bind fun ys => if (ys.map (·.length)).sum + ys.length * s.length ≤ line then some (.str (Txt.join s ys)) else none
  | _, _ => none
section
variable (cl : Nat → List D → M D) (et : Nat → Str × (Nat → Option Str)) (ars : List Nat)
mutual
def evalE : E → Env → M D
  | .var i, env => getV env i
  | .con d, _ => M.pure d
  | .bin o a b, env => M.bind (evalE a env) fun x => M.bind (evalE b env) fun y => liftO (binD o x y)
  | .neg a, env => M.bind (evalE a env) fun x => liftO (negD x)
  | .not a, env => M.bind (evalE a env) fun x => M.bind (truth x) fun b => M.pure (.bl (!b))
  | .cmp o a b, env => M.bind (evalE a env) fun x => M.bind (evalE b env) fun y => M.bind (liftO (cmpD o x y)) fun b => M.pure (.bl b)
  | .chain o1 o2 a b c, env => M.bind (evalE a env) fun x => M.bind (evalE b env) fun y => M.bind (liftO (cmpD o1 x y)) fun k =>
      if k then M.bind (evalE c env) fun z => M.bind (liftO (cmpD o2 y z)) fun b => M.pure (.bl b) else M.pure (.bl false)
  | .and a b, env => M.bind (evalE a env) fun x => M.bind (truth x) fun k => if k then M.bind (evalE b env) fun y => M.bind (truth y) fun k => M.pure (.bl k) else M.pure (.bl false)
  | .or a b, env => M.bind (evalE a env) fun x => M.bind (truth x) fun k => if k then M.pure (.bl true) else M.bind (evalE b env) fun y => M.bind (truth y) fun k => M.pure (.bl k)
  | .ite c a b, env => M.bind (evalE c env) fun x => M.bind (truth x) fun k => if k then evalE a env else evalE b env
  | .tup es, env => M.bind (evalEs es env) fun xs => M.pure (.tup xs)
  | .lst es, env => M.bind (evalEs es env) fun xs => M.pure (.lst xs)
  | .idx a b, env => M.bind (evalE a env) fun x => M.bind (evalE b env) fun y => readCup x y
  | .slLo a l, env => M.bind (evalE a env) fun x => M.bind (evalE l env) fun y => M.bind (toInt y) fun i => liftO (cutD x (some i) none)
  | .slHi a h, env => M.bind (evalE a env) fun x => M.bind (evalE h env) fun y => M.bind (toInt y) fun i => liftO (cutD x none (some i))
  | .slBo a l h, env => M.bind (evalE a env) fun x => M.bind (evalE l env) fun y => M.bind (toInt y) fun i => M.bind (evalE h env) fun z => M.bind (toInt z) fun j => liftO (cutD x (some i) (some j))
  | .rev a, env => M.bind (evalE a env) fun x => liftO (revD x)
  | .call f es, env => M.bind (evalEs es env) fun xs => cl f xs
  | .callv i es, env => M.bind (getV env i) fun g => match g with
    | .fn f => if ars[f]? = some es.len then M.bind (evalEs es env) fun xs => cl f xs else M.no
    | _ => M.no
  | .bi b es, env => M.bind (evalEs es env) fun xs => liftO (biD b xs)
  | .isi a ts, env => M.bind (evalE a env) fun x => M.bind (liftO (isiD x ts)) fun b => M.pure (.bl b)
  | .comp e t it, env => M.bind (evalE it env) fun s => M.bind (walkD s) fun xs => M.bind (few xs) fun _ =>
      M.bind (compL (fun d => M.bind (liftO (bindT t d env)) fun env' => (evalE e env').calm) xs) fun ys => M.pure (.lst ys)
  | .compIf e t it c, env => M.bind (evalE it env) fun s => M.bind (walkD s) fun xs => M.bind (few xs) fun _ =>
      M.bind (compIfL (fun d => M.bind (liftO (bindT t d env)) fun env' => M.bind (evalE c env').calm fun x => truth x) (fun d => M.bind (liftO (bindT t d env)) fun env' => (evalE e env').calm) xs) fun ys => M.pure (.lst ys)
  | .comp2 e t it t2 it2, env => M.bind (evalE it env) fun s => M.bind (walkD s) fun xs => M.bind (catL (fun d => M.bind (liftO (bindT t d env)) fun env' => M.bind (evalE it2 env').calm fun s2 => M.bind (walkD s2) fun xs2 => M.bind (few xs2) fun _ =>
      compL (fun d => M.bind (liftO (bindT t2 d env')) fun env2 => (evalE e env2).calm) xs2) xs) fun ys => M.bind (few ys) fun _ => M.pure (.lst ys)
  | .mcount _ _, _ => M.no
  | .mindex a b, env => M.bind (evalE a env) fun x => match x with
    | .lst xs => M.bind (evalE b env) fun y => liftO (indexD xs y)
    | _ => M.no
  | .sset a, env => M.bind (evalE a env) fun x => liftO (ssetD x)
  | .chain3 o1 o2 o3 a b c d, env => M.bind (evalE a env) fun x => M.bind (evalE b env) fun y => M.bind (liftO (cmpD o1 x y)) fun k =>
      if k then M.bind (evalE c env) fun z => M.bind (liftO (cmpD o2 y z)) fun k2 => if k2 then M.bind (evalE d env) fun u => M.bind (liftO (cmpD o3 z u)) fun b => M.pure (.bl b) else M.pure (.bl false) else M.pure (.bl false)
  | .rg t a b, env => M.bind (evalE a env) fun x => M.bind (evalE b env) fun y => liftO (rgD t x y)
  | .mjoin a b, env => M.bind (evalE a env) fun x => M.bind (evalE b env) fun y => liftO (joinD x y)
  | .isx i ks, env => M.bind (getV env i) fun x => match x with
    | .exn k => M.pure (.bl (ks.contains k))
    | _ => M.no
  | .err g b, env => fun w => match evalE b env w with
    | .ok _ w' => .ok (.str (et g).1) w'
    | .ex c w' => match (et g).2 c with
      | some z => .ok (.str z) w'
      | none => .no
    | .no => .no
def evalEs : Es → Env → M (List D)
  | .nil, _ => M.pure []
  | .cons e es, env => M.bind (evalE e env) fun x => M.bind (evalEs es env) fun xs => M.pure (x :: xs)
end

/-- how a statement ends -/
inductive F where | nx (env : Env) | brk (env : Env) | cont (env : Env) | ret (d : D)
def forL (f : D → Env → M F) : List D → Env → M F
  | [], env => M.pure (.nx env)
  | d :: ds, env => M.bind (f d env) fun r => match r with
    | .nx e => forL f ds e
    | .cont e => forL f ds e
    | .brk e => M.pure (.nx e)
    | .ret d => M.pure (.ret d)
def whileL (c : Env → M Bool) (f : Env → M F) : Nat → Env → M F
  | 0, _ => M.no
  | n + 1, env => M.bind (c env) fun b => if b then M.bind (f env) fun r => match r with
    | .nx e => whileL c f n e
    | .cont e => whileL c f n e
    | .brk e => M.pure (.nx e)
    | .ret d => M.pure (.ret d)
    else M.pure (.nx env)
/-- x[i] = v -/
def setD : D → D → D → Option D
  | .lst xs, .int i, v => (ixN xs.length i).map fun j => .lst (xs.set j v)
  | _, _, _ => none
/-- x[i] = v, a list of one's own -/
def setM (x : Nat) (env : Env) (o k v : D) : M F := M.bind (liftO (setD o k v)) fun o' => M.pure (.nx (env.set x (some o')))
/-- x[i] = v, the shared list -/
def setC (env : Env) (o k v : D) : M F := fun w => match o, k with
  | .cup, .int j => match ixN w.length j with
    | some j => .ok (.nx env) (w.set j v)
    | none => .no
  | _, _ => .no
/-- x.append(v) -/
def appM (x : Nat) (env : Env) (o v : D) : M F := match o with
  | .lst xs => if xs.length < line then M.pure (.nx (env.set x (some (.lst (xs ++ [v]))))) else M.no
  | _ => M.no
def setParts : List Nat → List D → Env → Option Env
  | [], [], env => some env
  | i :: is, d :: ds, env => setParts is ds (env.set i (some d))
  | _, _, _ => none
/-- the cup that a script makes -/
def cupOf (xs : List D) : Option (List D) := match intsD xs with
  | some is => match is.headD 0 with
    | c => some [.int (if 10 ^ 18 ≤ c.natAbs then ((c.natAbs : Int)).fdiv 157 else 0), .int (((c.natAbs : Int) * 409 + 6029).fmod 1914129581 + 263)]
  | none => none
/-- the turns that a while may take at most -/
def turns : Nat := 1000000000
mutual
def exec : S → Env → M F
  | .asg t e, env => M.bind (evalE cl et ars e env) fun d => M.bind (liftO (bindT t d env)) fun env' => M.pure (.nx env')
  | .par is es, env => M.bind (evalEs cl et ars es env) fun ds => M.bind (liftO (setParts is ds env)) fun env' => M.pure (.nx env')
  | .setI x i e, env => M.bind (evalE cl et ars e env) fun v => M.bind (getV env x) fun o => M.bind (evalE cl et ars i env) fun k => setM x env o k v
  | .setC x i e, env => M.bind (evalE cl et ars e env) fun v => M.bind (getV env x) fun o => M.bind (evalE cl et ars i env) fun k => setC env o k v
  | .app x e, env => M.bind (getV env x) fun o => M.bind (evalE cl et ars e env) fun v => appM x env o v
  | .expr e, env => M.bind (evalE cl et ars e env) fun _ => M.pure (.nx env)
  | .ite c a b, env => M.bind (evalE cl et ars c env) fun x => M.bind (truth x) fun k => if k then execs a env else execs b env
  | .for t it b, env => M.bind (evalE cl et ars it env) fun s => M.bind (walkD s) fun xs => forL (fun d env => M.bind (liftO (bindT t d env)) fun env' => execs b env') xs env
  | .while c b, env => whileL (fun env => M.bind (evalE cl et ars c env) fun x => truth x) (fun env => execs b env) turns env
  | .ret e, env => M.bind (evalE cl et ars e env) fun d => M.pure (.ret d)
  | .retN, _ => M.pure (.ret .non)
  | .raise c, _ => M.ex c
  | .brk, env => M.pure (.brk env)
  | .cont, env => M.pure (.cont env)
  | .pass, env => M.pure (.nx env)
  | .mkcup x y, env => M.bind (getV env y) fun s => match s with
    | .lst xs => match cupOf xs with
      | some w => fun _ => .ok (.nx ((List.replicate env.length none).set x (some .cup))) w
      | none => M.no
    | _ => M.no
def execs : Ss → Env → M F
  | .nil, env => M.pure (.nx env)
  | .cons s ss, env => M.bind (exec s env) fun r => match r with
    | .nx env' => execs ss env'
    | r => M.pure r
end
end
/-- a def: how many parameters, how many slots, its body -/
structure Fn where
  ar : Nat
  slots : Nat
  body : Ss
/-- a def that calls what it gets and catches: its slots, the error's slot, the suite, what is told of none -/
structure ErrT where
  slots : Nat
  es : Nat
  suite : Ss
  none : Str
structure Prog where
  fns : List Fn
  ets : List ErrT
  ncls : Nat
def endOf : F → M D
  | .nx _ => M.pure .non
  | .ret d => M.pure d
  | _ => M.no
def noET : ErrT := ⟨0, 0, .nil, ⟨#[]⟩⟩
def noEt : Nat → Str × (Nat → Option Str) := fun _ => (⟨#[]⟩, fun _ => Option.none)
def ErrT.env (t : ErrT) (k : Nat) : Env := (List.replicate t.slots Option.none).set t.es (some (.exn k))
def ErrT.run (t : ErrT) (ars : List Nat) (k : Nat) : Option Str := match M.bind (execs (fun _ _ => M.no) noEt ars t.suite (t.env k)) endOf [] with
  | .ok (.str z) [] => some z
  | _ => Option.none
def etOf (P : Prog) : Nat → Str × (Nat → Option Str) := fun g => match P.ets[g]? with
  | some t => (t.none, fun k => if k < P.ncls then t.run (P.fns.map Fn.ar) k else Option.none)
  | Option.none => noEt g
def run (P : Prog) : Nat → Nat → List D → M D
  | 0, _, _ => M.no
  | n + 1, f, args => match P.fns[f]? with
    | some fn => if args.length = fn.ar then M.bind (execs (run P n) (etOf P) (P.fns.map Fn.ar) fn.body (args.map some ++ List.replicate (fn.slots - fn.ar) Option.none)) endOf else M.no
    | Option.none => M.no
/-- the cup of a law, and the law's places behind its first row -/
def cup0 (c : Int) : List D := [.int (if 10 ^ 18 ≤ c then c.fdiv 157 else 0), .int ((c * 409 + 6029).fmod 1914129581 + 263)]
def lawEnv (n : Nat) : Env := (List.replicate n none).set 1 (some .cup)
end VI
end
section
set_option maxRecDepth 100000
set_option maxHeartbeats 4000000
namespace VI
open PySem PySem.Spec PyProof.Rows L2 He
/-! ### what the head's run asks of a text -/
/-- where the defs and the error classes stand -/
structure Gb where
  K : PySem.W.Frag
  fa : Nat → Addr
  ca : Nat → Addr
  ex : Option (Nat × Addr) := none
structure Cst where
  fns : List (Str × Nat)
  con : List (Str × D)
  free : List Str
  gcd : Bool
  cls : List Str
  subs : List (List Nat)
  errs : List Str
  lams : List Str
structure DefT where
  params : Arguments
  body : List Stmt
  scope : Scope
  ps : List Str
  N : List Str
  lam : Bool := false
def codeOf (K : PySem.W.Frag) (f : Addr) : Value := match K.lookup f with
  | some ⟨_, _, .func fd, _⟩ => fd.code
  | _ => .none
mutual
def vB (K : PySem.W.Frag) : D → Value → Bool
  | .non, u => match u with
    | .none => true
    | _ => false
  | .bl b, u => match u with
    | .bool c => b == c
    | _ => false
  | .int i, u => match u with
    | .int j _ => decide (i = j)
    | _ => false
  | .str s, u => match u with
    | .str t _ => decide (s = t)
    | _ => false
  | .tup ds, u => match u with
    | .ref a => match K.lookup a with
      | some ⟨.type c, _, .seq its _, _⟩ => decide (c = "tuple") && decide (its.size ≤ sizeLine) && vBs K ds its.toList
      | _ => false
    | _ => false
  | _, _ => false
def vBs (K : PySem.W.Frag) : List D → List Value → Bool
  | [], us => us.isEmpty
  | d :: ds, us => match us with
    | u :: us => vB K d u && vBs K ds us
    | [] => false
end
def excCB (K : PySem.W.Frag) (D : Addr) : Bool :=
  eqO (PySem.W.findIn K (.ref D) "__getattribute__") (some (some (.builtin "BaseException.__getattribute__"))) && eqO (PySem.W.findIn K (.ref D) "__getattr__") (some none) && decide (PySem.W.subIn K (.ref D) (.type "BaseException") = some true) && PySem.W.hasDictIn K D &&
    eqO (PySem.W.findIn K (.ref D) "__class__") (some (some (.builtin "object.__class__"))) && eqO (PySem.W.specialIn K (.builtin "object.__class__") "__get__") (some (some (.builtin "getset_descriptor.__get__"))) && decide (PySem.W.takesIn K (.builtin "object.__class__") = some true) && decide (PySem.W.mroIn K D (.type "object") = some true)
def gbOf (G : Cst) (K : PySem.W.Frag) : Gb := ⟨K, fun i => ga K ((G.fns[i]?.map (·.1)).getD ""), fun c => ga K (G.cls[c]?.getD ""), none⟩
def lamsB (G : Cst) (K : PySem.W.Frag) : Bool := decide ((G.lams.map fun x => (cT K (x, none)).2).Nodup) && G.lams.all fun x => match VI.codeOf K (ga K x) with
  | .ref c => decide (c = (cT K (x, none)).1)
  | _ => false
def exB (G : Cst) (K : PySem.W.Frag) : Bool :=
  (G.con.all fun p => match PySem.W.nsIn K mainGlobals p.1 with
    | some (some u) => vB K p.2 u
    | _ => false) && (!G.gcd || eqO (PySem.W.nsIn K mainGlobals "gcd") (some (some (.builtin "math.gcd")))) &&
  ((List.range G.cls.length).all fun c => (List.range G.cls.length).all fun k => decide (PySem.W.kitOne K (.ref ((gbOf G K).ca k)) (.ref ((gbOf G K).ca c)) = some ((G.subs.getD c []).contains k)) && decide (PySem.W.exmOne K (.ref ((gbOf G K).ca k)) (.ref ((gbOf G K).ca c)) = some ((G.subs.getD c []).contains k))) &&
  ((List.range G.cls.length).all fun k => excCB K ((gbOf G K).ca k)) && lamsB G K
def DefT.dd (d : DefT) (x : Str) : DefD := ⟨(x, none), x, x, d.params, d.body, d.scope, [], []⟩
def faOf (G : Cst) : List Fa := G.fns.map (fun p => Fa.glo p.1) ++ G.errs.map Fa.glo ++ G.free.map Fa.free ++ G.cls.map Fa.exc ++ G.cls.map Fa.glo ++ [Fa.glo "_law_cup", Fa.glo "law"]
def fnOf (G : Cst) (defs edefs : List DefT) (dc dl : DefT) : List DefD := (G.fns.zip defs).map (fun p => p.2.dd p.1.1) ++ (G.errs.zip edefs).map (fun p => p.2.dd p.1) ++ [dc.dd "_law_cup", dl.dd "law"]
def lamTf (G : Cst) : List Defn := G.lams.map fun x => (x, none)
end VI
end
section
set_option maxRecDepth 100000
namespace K28
open VI PySem
def st (l : List Nat) : PySem.Str := ⟨l.toArray⟩
def c_GREAT : D := (.int 1000000000000000000000000000000000000000000000000000000000000)
def c_LONG : D := (.int 40)
def c_BOTTOM : D := (.int 30)
def f_is_whole : Fn := ⟨3, 3, (.cons (.ret (.and (.isi (.var 0) [.int]) (.and (.not (.isi (.var 0) [.bool])) (.chain .le .le (.var 1) (.var 0) (.var 2))))) .nil)⟩
def f_need_whole : Fn := ⟨3, 3, (.cons (.ite (.not (.call 0 (.cons (.var 0) (.cons (.var 1) (.cons (.var 2) .nil))))) (.cons (.raise 1) .nil) .nil) .nil)⟩
def f_is_tuple_of : Fn := ⟨3, 3, (.cons (.ret (.and (.isi (.var 0) [.tuple]) (.chain .le .le (.var 1) (.bi .len (.cons (.var 0) .nil)) (.var 2)))) .nil)⟩
def f_is_portion : Fn := ⟨1, 1, (.cons (.ite (.or (.not (.call 2 (.cons (.var 0) (.cons (.con (.int 2)) (.cons (.con (.int 2)) .nil))))) (.or (.not (.call 0 (.cons (.idx (.var 0) (.con (.int 0))) (.cons (.neg (.con c_GREAT)) (.cons (.con c_GREAT) .nil))))) (.not (.call 0 (.cons (.idx (.var 0) (.con (.int 1))) (.cons (.con (.int 1)) (.cons (.con c_GREAT) .nil))))))) (.cons (.ret (.con (.bl false))) .nil) .nil) (.cons (.ret (.cmp .eq (.bi .gcd (.cons (.idx (.var 0) (.con (.int 0))) (.cons (.idx (.var 0) (.con (.int 1))) .nil))) (.con (.int 1)))) .nil))⟩
def f_lowest : Fn := ⟨2, 3, (.cons (.asg (.nm 2) (.bi .gcd (.cons (.var 0) (.cons (.var 1) .nil)))) (.cons (.asg (.nm 2) (.ite (.cmp .gt (.var 1) (.con (.int 0))) (.var 2) (.neg (.var 2)))) (.cons (.ret (.tup (.cons (.bin .fdiv (.var 0) (.var 2)) (.cons (.bin .fdiv (.var 1) (.var 2)) .nil)))) .nil)))⟩
def f_plus : Fn := ⟨2, 2, (.cons (.ret (.call 4 (.cons (.bin .add (.bin .mul (.idx (.var 0) (.con (.int 0))) (.idx (.var 1) (.con (.int 1)))) (.bin .mul (.idx (.var 1) (.con (.int 0))) (.idx (.var 0) (.con (.int 1))))) (.cons (.bin .mul (.idx (.var 0) (.con (.int 1))) (.idx (.var 1) (.con (.int 1)))) .nil)))) .nil)⟩
def f_times : Fn := ⟨2, 2, (.cons (.ret (.call 4 (.cons (.bin .mul (.idx (.var 0) (.con (.int 0))) (.idx (.var 1) (.con (.int 0)))) (.cons (.bin .mul (.idx (.var 0) (.con (.int 1))) (.idx (.var 1) (.con (.int 1)))) .nil)))) .nil)⟩
def f_lead : Fn := ⟨2, 2, (.cons (.ret (.bin .sub (.bin .mul (.idx (.var 0) (.con (.int 0))) (.idx (.var 1) (.con (.int 1)))) (.bin .mul (.idx (.var 1) (.con (.int 0))) (.idx (.var 0) (.con (.int 1)))))) .nil)⟩
def f_are_chances : Fn := ⟨1, 2, (.cons (.ite (.or (.not (.call 2 (.cons (.var 0) (.cons (.con (.int 1)) (.cons (.con c_LONG) .nil))))) (.not (.bi .all (.cons (.comp (.call 3 (.cons (.var 1) .nil)) (.nm 1) (.var 0)) .nil)))) (.cons (.ret (.con (.bl false))) .nil) .nil) (.cons (.ret (.bi .all (.cons (.comp (.chain3 .le .le .le (.con (.int 0)) (.idx (.var 1) (.con (.int 0))) (.idx (.var 1) (.con (.int 1))) (.con c_BOTTOM)) (.nm 1) (.var 0)) .nil))) .nil))⟩
def f_need_chances : Fn := ⟨1, 1, (.cons (.ite (.not (.call 8 (.cons (.var 0) .nil))) (.cons (.raise 9) .nil) .nil) .nil)⟩
def f_start_chances : Fn := ⟨1, 6, (.cons (.par [1, 2] (.cons (.lst .nil) (.cons (.tup (.cons (.con (.int 1)) (.cons (.con (.int 1)) .nil))) .nil))) (.cons (.asg (.nm 3) (.tup (.cons (.con (.int 0)) (.cons (.con (.int 1)) .nil)))) (.cons (.for (.nm 4) (.rev (.var 0)) (.cons (.asg (.nm 5) (.call 4 (.cons (.bin .sub (.idx (.var 4) (.con (.int 1))) (.idx (.var 4) (.con (.int 0)))) (.cons (.idx (.var 4) (.con (.int 1))) .nil)))) (.cons (.asg (.nm 3) (.call 5 (.cons (.call 6 (.cons (.var 4) (.cons (.var 2) .nil))) (.cons (.call 6 (.cons (.var 5) (.cons (.var 3) .nil))) .nil)))) (.cons (.asg (.nm 2) (.call 6 (.cons (.var 2) (.cons (.var 5) .nil)))) (.cons (.asg (.nm 1) (.bin .add (.lst (.cons (.var 3) .nil)) (.var 1))) .nil))))) (.cons (.ret (.var 1)) .nil))))⟩
def f_odds_in : Fn := ⟨2, 4, (.cons (.asg (.nm 2) (.tup (.cons (.con (.int 0)) (.cons (.con (.int 1)) .nil)))) (.cons (.for (.nm 3) (.slLo (.var 0) (.var 1)) (.cons (.ite (.cmp .eq (.var 3) (.tup (.cons (.con (.int 1)) (.cons (.con (.int 1)) .nil)))) (.cons (.ret (.con .non)) .nil) .nil) (.cons (.asg (.nm 2) (.call 5 (.cons (.var 2) (.cons (.call 4 (.cons (.idx (.var 3) (.con (.int 0))) (.cons (.bin .sub (.idx (.var 3) (.con (.int 1))) (.idx (.var 3) (.con (.int 0)))) .nil))) .nil)))) .nil))) (.cons (.ret (.var 2)) .nil)))⟩
def f_best_in : Fn := ⟨1, 3, (.cons (.asg (.nm 1) (.tup (.cons (.con (.int 0)) (.cons (.con (.int 1)) .nil)))) (.cons (.for (.nm 2) (.call 10 (.cons (.var 0) .nil)) (.cons (.asg (.nm 1) (.ite (.cmp .gt (.call 7 (.cons (.var 2) (.cons (.var 1) .nil))) (.con (.int 0))) (.var 2) (.var 1))) .nil)) (.cons (.ret (.var 1)) .nil)))⟩
def f_need_index : Fn := ⟨2, 2, (.cons (.expr (.call 9 (.cons (.var 0) .nil))) (.cons (.expr (.call 1 (.cons (.var 1) (.cons (.con (.int 0)) (.cons (.bin .sub (.bi .len (.cons (.var 0) .nil)) (.con (.int 1))) .nil))))) .nil))⟩
def f_start_chance : Fn := ⟨2, 2, (.cons (.expr (.call 13 (.cons (.var 0) (.cons (.var 1) .nil)))) (.cons (.ret (.idx (.call 10 (.cons (.var 0) .nil)) (.var 1))) .nil))⟩
def f_greatest_chance : Fn := ⟨1, 1, (.cons (.expr (.call 9 (.cons (.var 0) .nil))) (.cons (.ret (.call 12 (.cons (.var 0) .nil))) .nil))⟩
def f_odds_start : Fn := ⟨1, 5, (.cons (.expr (.call 9 (.cons (.var 0) .nil))) (.cons (.asg (.nm 1) (.comp (.call 11 (.cons (.var 0) (.cons (.var 3) .nil))) (.nm 3) (.bi .range (.cons (.bi .len (.cons (.var 0) .nil)) .nil)))) (.cons (.asg (.nm 2) (.compIf (.var 3) (.tp (.cons (.nm 3) (.cons (.nm 4) .nil))) (.bi .enum (.cons (.var 1) .nil)) (.or (.cmp .is (.var 4) (.con .non)) (.cmp .ge (.idx (.var 4) (.con (.int 0))) (.idx (.var 4) (.con (.int 1))))))) (.cons (.ret (.ite (.cmp .ne (.var 2) (.lst .nil)) (.idx (.var 2) (.neg (.con (.int 1)))) (.con (.int 0)))) .nil))))⟩
def f_are_best_starts : Fn := ⟨1, 4, (.cons (.expr (.call 9 (.cons (.var 0) .nil))) (.cons (.asg (.nm 1) (.call 12 (.cons (.var 0) .nil))) (.cons (.ret (.bi .tuple (.cons (.compIf (.var 2) (.tp (.cons (.nm 2) (.cons (.nm 3) .nil))) (.bi .enum (.cons (.call 10 (.cons (.var 0) .nil)) .nil)) (.cmp .eq (.var 3) (.var 1))) .nil))) .nil)))⟩
def f_odds_from : Fn := ⟨2, 2, (.cons (.expr (.call 13 (.cons (.var 0) (.cons (.var 1) .nil)))) (.cons (.ret (.call 11 (.cons (.var 0) (.cons (.var 1) .nil)))) .nil))⟩
def f__law_roll : Fn := ⟨2, 4, (.cons (.ite (.cmp .gt (.idx (.var 0) (.con (.int 0))) (.con (.int 0))) (.cons (.asg (.nm 3) (.bin .mod (.bi .int (.cons (.idx (.var 0) (.con (.int 0))) .nil)) (.var 1))) (.cons (.setC 0 (.con (.int 0)) (.bin .fdiv (.idx (.var 0) (.con (.int 0))) (.var 1))) (.cons (.ret (.var 3)) .nil))) .nil) (.cons (.setC 0 (.con (.int 1)) (.bin .mod (.bi .int (.cons (.bin .add (.bin .mul (.idx (.var 0) (.con (.int 1))) (.con (.int 29347))) (.con (.int 9719))) .nil)) (.con (.int 2147483543)))) (.cons (.asg (.nm 2) (.bin .mod (.bi .int (.cons (.bin .mul (.idx (.var 0) (.con (.int 1))) (.bin .add (.idx (.var 0) (.con (.int 1))) (.con (.int 347)))) .nil)) (.con (.int 2147483587)))) (.cons (.ret (.bin .mod (.bi .int (.cons (.bin .fdiv (.var 2) (.con (.int 941))) .nil)) (.var 1))) .nil))))⟩
def f__law_some : Fn := ⟨2, 2, (.cons (.ret (.idx (.var 1) (.call 19 (.cons (.var 0) (.cons (.bi .len (.cons (.var 1) .nil)) .nil))))) .nil)⟩
def f__law_sort : Fn := ⟨1, 1, (.cons (.ite (.or (.cmp .is (.var 0) (.con .non)) (.isi (.var 0) [.bool])) (.cons (.ret (.ite (.cmp .is (.var 0) (.con .non)) (.con (.int 0)) (.con (.int 1)))) .nil) .nil) (.cons (.ite (.or (.isi (.var 0) [.int]) (.isi (.var 0) [.str])) (.cons (.ret (.ite (.isi (.var 0) [.int]) (.con (.int 2)) (.con (.int 3)))) .nil) .nil) (.cons (.ret (.ite (.isi (.var 0) [.tuple]) (.con (.int 4)) (.ite (.isi (.var 0) [.list]) (.con (.int 5)) (.con (.int 6))))) .nil)))⟩
def f__law_like : Fn := ⟨2, 5, (.cons (.asg (.nm 2) (.call 21 (.cons (.var 1) .nil))) (.cons (.ite (.or (.cmp .ne (.call 21 (.cons (.var 0) .nil)) (.var 2)) (.cmp .eq (.var 2) (.con (.int 6)))) (.cons (.ret (.con (.bl false))) .nil) .nil) (.cons (.ite (.cmp .inn (.var 2) (.tup (.cons (.con (.int 4)) (.cons (.con (.int 5)) .nil)))) (.cons (.ret (.and (.cmp .eq (.bi .len (.cons (.var 0) .nil)) (.bi .len (.cons (.var 1) .nil))) (.cmp .eq (.compIf (.con (.int 1)) (.tp (.cons (.nm 3) (.cons (.nm 4) .nil))) (.bi .zip (.cons (.var 0) (.cons (.var 1) .nil))) (.not (.call 22 (.cons (.var 3) (.cons (.var 4) .nil))))) (.lst .nil)))) .nil) .nil) (.cons (.ret (.cmp .eq (.var 0) (.var 1))) .nil))))⟩
def f__law_gcd : Fn := ⟨2, 2, (.cons (.par [0, 1] (.cons (.bi .abs (.cons (.var 0) .nil)) (.cons (.bi .abs (.cons (.var 1) .nil)) .nil))) (.cons (.while (.cmp .gt (.var 1) (.con (.int 0))) (.cons (.par [0, 1] (.cons (.var 1) (.cons (.bin .mod (.bi .int (.cons (.var 0) .nil)) (.var 1)) .nil))) .nil)) (.cons (.ret (.var 0)) .nil)))⟩
def f__law_low : Fn := ⟨2, 3, (.cons (.asg (.nm 2) (.ite (.cmp .gt (.var 1) (.con (.int 0))) (.call 23 (.cons (.var 0) (.cons (.var 1) .nil))) (.neg (.call 23 (.cons (.var 0) (.cons (.var 1) .nil)))))) (.cons (.ret (.tup (.cons (.bin .fdiv (.var 0) (.var 2)) (.cons (.bin .fdiv (.var 1) (.var 2)) .nil)))) .nil))⟩
def f__law_plus : Fn := ⟨2, 2, (.cons (.ret (.call 24 (.cons (.bin .add (.bin .mul (.idx (.var 0) (.con (.int 0))) (.idx (.var 1) (.con (.int 1)))) (.bin .mul (.idx (.var 1) (.con (.int 0))) (.idx (.var 0) (.con (.int 1))))) (.cons (.bin .mul (.idx (.var 0) (.con (.int 1))) (.idx (.var 1) (.con (.int 1)))) .nil)))) .nil)⟩
def f__law_times : Fn := ⟨2, 2, (.cons (.ret (.call 24 (.cons (.bin .mul (.idx (.var 0) (.con (.int 0))) (.idx (.var 1) (.con (.int 0)))) (.cons (.bin .mul (.idx (.var 0) (.con (.int 1))) (.idx (.var 1) (.con (.int 1)))) .nil)))) .nil)⟩
def f__law_lead : Fn := ⟨2, 2, (.cons (.ret (.bin .sub (.bin .mul (.idx (.var 0) (.con (.int 0))) (.idx (.var 1) (.con (.int 1)))) (.bin .mul (.idx (.var 1) (.con (.int 0))) (.idx (.var 0) (.con (.int 1)))))) .nil)⟩
def f__law_chances : Fn := ⟨3, 6, (.cons (.asg (.nm 3) (.lst .nil)) (.cons (.for (.nm 4) (.bi .range (.cons (.var 1) .nil)) (.cons (.asg (.nm 5) (.bin .add (.con (.int 1)) (.call 19 (.cons (.var 0) (.cons (.var 2) .nil))))) (.cons (.app 3 (.call 24 (.cons (.call 19 (.cons (.var 0) (.cons (.bin .add (.var 5) (.con (.int 1))) .nil))) (.cons (.var 5) .nil)))) .nil))) (.cons (.ret (.bi .tuple (.cons (.var 3) .nil))) .nil)))⟩
def f__law_other : Fn := ⟨1, 1, (.cons (.ret (.call 24 (.cons (.bin .sub (.idx (.var 0) (.con (.int 1))) (.idx (.var 0) (.con (.int 0)))) (.cons (.idx (.var 0) (.con (.int 1))) .nil)))) .nil)⟩
def f__law_starts : Fn := ⟨1, 8, (.cons (.asg (.nm 1) (.lst .nil)) (.cons (.for (.nm 2) (.bi .range (.cons (.bi .len (.cons (.var 0) .nil)) .nil)) (.cons (.par [3, 4] (.cons (.tup (.cons (.con (.int 0)) (.cons (.con (.int 1)) .nil))) (.cons (.tup (.cons (.con (.int 1)) (.cons (.con (.int 1)) .nil))) .nil))) (.cons (.for (.nm 5) (.bi .range (.cons (.var 2) (.cons (.bi .len (.cons (.var 0) .nil)) .nil))) (.cons (.asg (.nm 6) (.tup (.cons (.con (.int 1)) (.cons (.con (.int 1)) .nil)))) (.cons (.for (.nm 7) (.slLo (.var 0) (.bin .add (.var 5) (.con (.int 1)))) (.cons (.asg (.nm 6) (.call 26 (.cons (.var 6) (.cons (.call 29 (.cons (.var 7) .nil)) .nil)))) .nil)) (.cons (.asg (.nm 3) (.call 25 (.cons (.var 3) (.cons (.call 26 (.cons (.call 26 (.cons (.var 4) (.cons (.idx (.var 0) (.var 5)) .nil))) (.cons (.var 6) .nil))) .nil)))) (.cons (.asg (.nm 4) (.call 26 (.cons (.var 4) (.cons (.call 29 (.cons (.idx (.var 0) (.var 5)) .nil)) .nil)))) .nil))))) (.cons (.app 1 (.var 3)) .nil)))) (.cons (.ret (.var 1)) .nil)))⟩
def f__law_best : Fn := ⟨1, 5, (.cons (.par [1, 2] (.cons (.tup (.cons (.con (.int 1)) (.cons (.con (.int 1)) .nil))) (.cons (.tup (.cons (.con (.int 0)) (.cons (.con (.int 1)) .nil))) .nil))) (.cons (.for (.nm 3) (.rev (.var 0)) (.cons (.asg (.nm 4) (.ite (.cmp .gt (.call 27 (.cons (.var 1) (.cons (.var 2) .nil))) (.con (.int 0))) (.var 1) (.var 2))) (.cons (.asg (.nm 2) (.call 25 (.cons (.call 26 (.cons (.var 3) (.cons (.var 4) .nil))) (.cons (.call 26 (.cons (.call 29 (.cons (.var 3) .nil)) (.cons (.var 2) .nil))) .nil)))) (.cons (.asg (.nm 1) (.call 26 (.cons (.var 1) (.cons (.call 29 (.cons (.var 3) .nil)) .nil)))) .nil)))) (.cons (.ret (.var 2)) .nil)))⟩
def f__law_counted : Fn := ⟨2, 7, (.cons (.asg (.nm 2) (.lst (.cons (.tup (.cons (.tup .nil) (.cons (.tup (.cons (.con (.int 1)) (.cons (.con (.int 1)) .nil))) .nil))) .nil))) (.cons (.for (.nm 3) (.var 0) (.cons (.asg (.nm 2) (.bin .add (.comp (.tup (.cons (.bin .add (.var 5) (.tup (.cons (.con (.int 0)) .nil))) (.cons (.call 26 (.cons (.var 6) (.cons (.call 29 (.cons (.var 3) .nil)) .nil))) .nil))) (.tp (.cons (.nm 5) (.cons (.nm 6) .nil))) (.var 2)) (.comp (.tup (.cons (.bin .add (.var 5) (.tup (.cons (.con (.int 1)) .nil))) (.cons (.call 26 (.cons (.var 6) (.cons (.var 3) .nil))) .nil))) (.tp (.cons (.nm 5) (.cons (.nm 6) .nil))) (.var 2)))) .nil)) (.cons (.asg (.nm 4) (.tup (.cons (.con (.int 0)) (.cons (.con (.int 1)) .nil)))) (.cons (.for (.tp (.cons (.nm 5) (.cons (.nm 6) .nil))) (.var 2) (.cons (.ite (.cmp .eq (.bi .sum (.cons (.slLo (.var 5) (.var 1)) .nil)) (.con (.int 1))) (.cons (.asg (.nm 4) (.call 25 (.cons (.var 4) (.cons (.var 6) .nil)))) .nil) .nil) .nil)) (.cons (.ret (.var 4)) .nil)))))⟩
def f__law_odds : Fn := ⟨2, 5, (.cons (.asg (.nm 2) (.tup (.cons (.con (.int 0)) (.cons (.con (.int 1)) .nil)))) (.cons (.for (.tp (.cons (.nm 3) (.cons (.nm 4) .nil))) (.slLo (.var 0) (.var 1)) (.cons (.ite (.cmp .eq (.var 3) (.var 4)) (.cons (.ret (.con .non)) .nil) .nil) (.cons (.asg (.nm 2) (.call 25 (.cons (.var 2) (.cons (.call 24 (.cons (.var 3) (.cons (.bin .sub (.var 4) (.var 3)) .nil))) .nil)))) .nil))) (.cons (.ret (.var 2)) .nil)))⟩
def f__law_right : Fn := ⟨2, 11, (.cons (.par [2, 3, 4] (.cons (.call 30 (.cons (.var 1) .nil)) (.cons (.call 31 (.cons (.var 1) .nil)) (.cons (.bi .len (.cons (.var 1) .nil)) .nil)))) (.cons (.asg (.nm 5) (.call 19 (.cons (.var 0) (.cons (.var 4) .nil)))) (.cons (.asg (.nm 6) (.lst (.cons (.call 14 (.cons (.var 1) (.cons (.var 5) .nil))) (.cons (.call 15 (.cons (.var 1) .nil)) (.cons (.call 17 (.cons (.var 1) .nil)) (.cons (.call 18 (.cons (.var 1) (.cons (.var 5) .nil))) .nil)))))) (.cons (.asg (.nm 7) (.lst (.cons (.idx (.var 2) (.var 5)) (.cons (.var 3) (.cons (.bi .tuple (.cons (.compIf (.var 10) (.nm 10) (.bi .range (.cons (.var 4) .nil)) (.cmp .eq (.idx (.var 2) (.var 10)) (.var 3))) .nil)) (.cons (.call 33 (.cons (.var 1) (.cons (.var 5) .nil))) .nil)))))) (.cons (.ite (.or (.not (.call 22 (.cons (.var 6) (.cons (.var 7) .nil)))) (.cmp .eq (.idx (.var 7) (.con (.int 2))) (.tup .nil))) (.cons (.ret (.con (.bl false))) .nil) .nil) (.cons (.ite (.and (.cmp .lt (.var 4) (.con (.int 7))) (.cmp .ne (.call 32 (.cons (.var 1) (.cons (.var 5) .nil))) (.idx (.var 2) (.var 5)))) (.cons (.ret (.con (.bl false))) .nil) .nil) (.cons (.asg (.nm 8) (.call 16 (.cons (.var 1) .nil))) (.cons (.asg (.nm 9) (.compIf (.var 10) (.nm 10) (.bi .range (.cons (.var 4) .nil)) (.or (.cmp .is (.call 33 (.cons (.var 1) (.cons (.var 10) .nil))) (.con .non)) (.cmp .ge (.call 27 (.cons (.call 33 (.cons (.var 1) (.cons (.var 10) .nil))) (.cons (.tup (.cons (.con (.int 1)) (.cons (.con (.int 1)) .nil))) .nil))) (.con (.int 0)))))) (.cons (.ret (.and (.call 22 (.cons (.var 8) (.cons (.ite (.cmp .ne (.var 9) (.lst .nil)) (.idx (.var 9) (.neg (.con (.int 1)))) (.con (.int 0))) .nil))) (.cmp .eq (.idx (.var 2) (.var 8)) (.var 3)))) .nil)))))))))⟩
def f__law_great_right : Fn := ⟨1, 12, (.cons (.par [1, 2] (.cons (.bin .add (.con (.int 2)) (.call 19 (.cons (.var 0) (.cons (.con (.int 29)) .nil)))) (.cons (.bin .add (.con (.int 1)) (.call 19 (.cons (.var 0) (.cons (.con (.int 40)) .nil)))) .nil))) (.cons (.asg (.nm 3) (.bin .mul (.tup (.cons (.tup (.cons (.con (.int 1)) (.cons (.var 1) .nil))) .nil)) (.var 2))) (.cons (.asg (.nm 4) (.bi .max (.cons (.con (.int 0)) (.cons (.bin .add (.bin .sub (.var 2) (.var 1)) (.con (.int 1))) .nil)))) (.cons (.asg (.nm 5) (.bin .sub (.var 2) (.var 4))) (.cons (.par [6, 7] (.cons (.con (.int 1)) (.cons (.con (.int 1)) .nil))) (.cons (.for (.nm 8) (.bi .range (.cons (.bin .sub (.var 5) (.con (.int 1))) .nil)) (.cons (.par [6, 7] (.cons (.bin .mul (.var 6) (.bin .sub (.var 1) (.con (.int 1)))) (.cons (.bin .mul (.var 7) (.var 1)) .nil))) .nil)) (.cons (.asg (.nm 9) (.lst (.cons (.call 16 (.cons (.var 3) .nil)) (.cons (.call 14 (.cons (.var 3) (.cons (.var 4) .nil))) (.cons (.call 15 (.cons (.var 3) .nil)) (.cons (.call 18 (.cons (.var 3) (.cons (.con (.int 0)) .nil))) (.cons (.call 14 (.cons (.var 3) (.cons (.bin .sub (.var 2) (.con (.int 1))) .nil))) .nil))))))) (.cons (.asg (.nm 10) (.lst (.cons (.var 4) (.cons (.call 24 (.cons (.bin .mul (.var 5) (.var 6)) (.cons (.bin .mul (.var 1) (.var 7)) .nil))) (.cons (.call 24 (.cons (.bin .mul (.var 5) (.var 6)) (.cons (.bin .mul (.var 1) (.var 7)) .nil))) (.cons (.call 24 (.cons (.var 2) (.cons (.bin .sub (.var 1) (.con (.int 1))) .nil))) (.cons (.tup (.cons (.con (.int 1)) (.cons (.var 1) .nil))) .nil))))))) (.cons (.ite (.not (.call 22 (.cons (.var 9) (.cons (.var 10) .nil)))) (.cons (.ret (.con (.bl false))) .nil) .nil) (.cons (.asg (.nm 11) (.bin .add (.slHi (.var 3) (.bin .sub (.var 2) (.con (.int 1)))) (.tup (.cons (.tup (.cons (.con (.int 1)) (.cons (.con (.int 1)) .nil))) .nil)))) (.cons (.ret (.call 22 (.cons (.lst (.cons (.call 16 (.cons (.var 11) .nil)) (.cons (.call 15 (.cons (.var 11) .nil)) (.cons (.call 18 (.cons (.var 11) (.cons (.con (.int 0)) .nil))) .nil)))) (.cons (.lst (.cons (.bin .sub (.var 2) (.con (.int 1))) (.cons (.tup (.cons (.con (.int 1)) (.cons (.con (.int 1)) .nil))) (.cons (.con .non) .nil)))) .nil)))) .nil)))))))))))⟩
def f__law_written_right : Fn := ⟨0, 3, (.cons (.asg (.nm 0) (.tup (.cons (.tup (.cons (.con (.int 1)) (.cons (.con (.int 2)) .nil))) (.cons (.tup (.cons (.con (.int 1)) (.cons (.con (.int 2)) .nil))) .nil)))) (.cons (.asg (.nm 1) (.lst (.cons (.call 14 (.cons (.var 0) (.cons (.con (.int 0)) .nil))) (.cons (.call 15 (.cons (.var 0) .nil)) (.cons (.call 16 (.cons (.var 0) .nil)) (.cons (.call 17 (.cons (.var 0) .nil)) .nil)))))) (.cons (.asg (.nm 1) (.bin .add (.var 1) (.lst (.cons (.call 18 (.cons (.tup (.cons (.tup (.cons (.con (.int 1)) (.cons (.con (.int 2)) .nil))) (.cons (.tup (.cons (.con (.int 1)) (.cons (.con (.int 3)) .nil))) .nil))) (.cons (.con (.int 0)) .nil))) (.cons (.call 18 (.cons (.tup (.cons (.tup (.cons (.con (.int 1)) (.cons (.con (.int 1)) .nil))) (.cons (.tup (.cons (.con (.int 1)) (.cons (.con (.int 3)) .nil))) .nil))) (.cons (.con (.int 0)) .nil))) .nil))))) (.cons (.asg (.nm 1) (.bin .add (.var 1) (.lst (.cons (.call 16 (.cons (.tup (.cons (.tup (.cons (.con (.int 1)) (.cons (.con (.int 1)) .nil))) (.cons (.tup (.cons (.con (.int 1)) (.cons (.con (.int 3)) .nil))) .nil))) .nil)) (.cons (.call 15 (.cons (.tup (.cons (.tup (.cons (.con (.int 1)) (.cons (.con (.int 1)) .nil))) (.cons (.tup (.cons (.con (.int 1)) (.cons (.con (.int 3)) .nil))) .nil))) .nil)) (.cons (.call 16 (.cons (.tup (.cons (.tup (.cons (.con (.int 0)) (.cons (.con (.int 1)) .nil))) .nil)) .nil)) .nil)))))) (.cons (.asg (.nm 1) (.bin .add (.var 1) (.lst (.cons (.call 15 (.cons (.tup (.cons (.tup (.cons (.con (.int 1)) (.cons (.con (.int 4)) .nil))) (.cons (.tup (.cons (.con (.int 1)) (.cons (.con (.int 5)) .nil))) .nil))) .nil)) (.cons (.call 17 (.cons (.tup (.cons (.tup (.cons (.con (.int 0)) (.cons (.con (.int 1)) .nil))) (.cons (.tup (.cons (.con (.int 0)) (.cons (.con (.int 1)) .nil))) .nil))) .nil)) .nil))))) (.cons (.asg (.nm 2) (.lst (.cons (.tup (.cons (.con (.int 1)) (.cons (.con (.int 2)) .nil))) (.cons (.tup (.cons (.con (.int 1)) (.cons (.con (.int 2)) .nil))) (.cons (.con (.int 1)) (.cons (.tup (.cons (.con (.int 0)) (.cons (.con (.int 1)) .nil))) (.cons (.tup (.cons (.con (.int 3)) (.cons (.con (.int 2)) .nil))) (.cons (.con .non) (.cons (.con (.int 0)) (.cons (.tup (.cons (.con (.int 2)) (.cons (.con (.int 3)) .nil))) (.cons (.con (.int 0)) (.cons (.tup (.cons (.con (.int 7)) (.cons (.con (.int 20)) .nil))) (.cons (.tup (.cons (.con (.int 0)) (.cons (.con (.int 1)) .nil))) .nil))))))))))))) (.cons (.ret (.call 22 (.cons (.var 1) (.cons (.var 2) .nil)))) .nil)))))))⟩
def f__law_errors_right : Fn := ⟨0, 5, (.cons (.par [0, 1] (.cons (.lst .nil) (.cons (.tup (.cons (.tup (.cons (.con (.int 1)) (.cons (.con (.int 2)) .nil))) (.cons (.tup (.cons (.con (.int 1)) (.cons (.con (.int 3)) .nil))) .nil))) .nil))) (.cons (.asg (.nm 2) (.lst (.cons (.con .non) (.cons (.tup .nil) (.cons (.lst (.cons (.tup (.cons (.con (.int 1)) (.cons (.con (.int 2)) .nil))) .nil)) (.cons (.tup (.cons (.tup (.cons (.con (.int 2)) (.cons (.con (.int 4)) .nil))) .nil)) (.cons (.tup (.cons (.tup (.cons (.neg (.con (.int 1))) (.cons (.con (.int 2)) .nil))) .nil)) (.cons (.tup (.cons (.tup (.cons (.con (.int 3)) (.cons (.con (.int 2)) .nil))) .nil)) (.cons (.tup (.cons (.tup (.cons (.con (.int 1)) (.cons (.con (.int 31)) .nil))) .nil)) (.cons (.tup (.cons (.tup (.cons (.con (.bl true)) (.cons (.con (.int 2)) .nil))) .nil)) (.cons (.bin .mul (.tup (.cons (.tup (.cons (.con (.int 1)) (.cons (.con (.int 2)) .nil))) .nil)) (.con (.int 41))) (.cons (.tup (.cons (.con (.int 1)) (.cons (.con (.int 2)) .nil))) (.cons (.con (.str (st [111, 100, 100, 115]))) (.cons (.tup (.cons (.tup (.cons (.con (.int 1)) (.cons (.con (.int 2)) (.cons (.con (.int 3)) .nil)))) .nil)) .nil)))))))))))))) (.cons (.for (.nm 3) (.var 2) (.cons (.asg (.nm 0) (.bin .add (.var 0) (.comp (.err 0 (.callv 4 (.cons (.var 3) .nil))) (.nm 4) (.tup (.cons (.con (.fn 15)) (.cons (.con (.fn 16)) (.cons (.con (.fn 17)) .nil))))))) (.cons (.asg (.nm 0) (.bin .add (.var 0) (.comp (.err 0 (.callv 4 (.cons (.var 3) (.cons (.con .non) .nil)))) (.nm 4) (.tup (.cons (.con (.fn 14)) (.cons (.con (.fn 18)) .nil)))))) .nil))) (.cons (.for (.nm 3) (.tup (.cons (.con .non) (.cons (.neg (.con (.int 1))) (.cons (.con (.int 2)) (.cons (.con (.bl true)) (.cons (.con (.str (st [48]))) .nil)))))) (.cons (.asg (.nm 0) (.bin .add (.var 0) (.comp (.err 0 (.callv 4 (.cons (.var 1) (.cons (.var 3) .nil)))) (.nm 4) (.tup (.cons (.con (.fn 14)) (.cons (.con (.fn 18)) .nil)))))) .nil)) (.cons (.ret (.cmp .eq (.var 0) (.bin .add (.bin .mul (.lst (.cons (.con (.str (st [99, 104, 97, 110, 99, 101, 115]))) .nil)) (.bin .mul (.con (.int 5)) (.bi .len (.cons (.var 2) .nil)))) (.bin .mul (.lst (.cons (.con (.str (st [110, 117, 109, 98, 101, 114]))) .nil)) (.con (.int 10)))))) .nil)))))⟩
def e__law_error : ErrT := ⟨5, 1, (.cons (.asg (.nm 2) (.lst (.cons (.tup (.cons (.con (.str (st [99, 104, 97, 105, 110]))) (.cons (.isx 1 [4]) .nil))) (.cons (.tup (.cons (.con (.str (st [114, 101, 119, 97, 114, 100, 115]))) (.cons (.isx 1 [6]) .nil))) (.cons (.tup (.cons (.con (.str (st [114, 117, 108, 101]))) (.cons (.isx 1 [7]) .nil))) .nil))))) (.cons (.asg (.nm 2) (.bin .add (.var 2) (.lst (.cons (.tup (.cons (.con (.str (st [112, 108, 97, 99, 101]))) (.cons (.isx 1 [5]) .nil))) (.cons (.tup (.cons (.con (.str (st [110, 117, 109, 98, 101, 114]))) (.cons (.isx 1 [1]) .nil))) (.cons (.tup (.cons (.con (.str (st [115, 101, 116]))) (.cons (.isx 1 [2]) .nil))) .nil)))))) (.cons (.asg (.nm 2) (.bin .add (.var 2) (.lst (.cons (.tup (.cons (.con (.str (st [116, 105, 109, 101, 115]))) (.cons (.isx 1 [8]) .nil))) (.cons (.tup (.cons (.con (.str (st [99, 104, 97, 110, 99, 101, 115]))) (.cons (.isx 1 [9]) .nil))) .nil))))) (.cons (.asg (.nm 2) (.bin .add (.var 2) (.lst (.cons (.tup (.cons (.con (.str (st [111, 114, 100, 101, 114]))) (.cons (.isx 1 [10]) .nil))) .nil)))) (.cons (.app 2 (.tup (.cons (.con (.str (st [112, 111, 114, 116, 105, 111, 110]))) (.cons (.isx 1 [3]) .nil)))) (.cons (.ret (.mjoin (.con (.str (st [32]))) (.compIf (.var 3) (.tp (.cons (.nm 3) (.cons (.nm 4) .nil))) (.var 2) (.var 4)))) .nil)))))), (st [])⟩
def lawBody : Ss := (.cons (.for (.nm 2) (.bi .range (.cons (.con (.int 6)) .nil)) (.cons (.ite (.not (.call 34 (.cons (.var 1) (.cons (.call 28 (.cons (.var 1) (.cons (.bin .add (.con (.int 1)) (.call 19 (.cons (.var 1) (.cons (.call 20 (.cons (.var 1) (.cons (.lst (.cons (.con (.int 6)) (.cons (.con (.int 14)) .nil))) .nil))) .nil)))) (.cons (.call 20 (.cons (.var 1) (.cons (.lst (.cons (.con (.int 2)) (.cons (.con (.int 5)) (.cons (.con (.int 30)) .nil)))) .nil))) .nil)))) .nil)))) (.cons (.ret (.con (.bl false))) .nil) .nil) .nil)) (.cons (.ret (.and (.call 36 .nil) (.and (.call 37 .nil) (.call 35 (.cons (.var 1) .nil))))) .nil))
def fns : List Fn := [f_is_whole, f_need_whole, f_is_tuple_of, f_is_portion, f_lowest, f_plus, f_times, f_lead, f_are_chances, f_need_chances, f_start_chances, f_odds_in, f_best_in, f_need_index, f_start_chance, f_greatest_chance, f_odds_start, f_are_best_starts, f_odds_from, f__law_roll, f__law_some, f__law_sort, f__law_like, f__law_gcd, f__law_low, f__law_plus, f__law_times, f__law_lead, f__law_chances, f__law_other, f__law_starts, f__law_best, f__law_counted, f__law_odds, f__law_right, f__law_great_right, f__law_written_right, f__law_errors_right]
def PR : Prog := ⟨fns, [e__law_error], 11⟩
abbrev i_is_whole : Nat := 0
abbrev i_need_whole : Nat := 1
abbrev i_is_tuple_of : Nat := 2
abbrev i_is_portion : Nat := 3
abbrev i_lowest : Nat := 4
abbrev i_plus : Nat := 5
abbrev i_times : Nat := 6
abbrev i_lead : Nat := 7
abbrev i_are_chances : Nat := 8
abbrev i_need_chances : Nat := 9
abbrev i_start_chances : Nat := 10
abbrev i_odds_in : Nat := 11
abbrev i_best_in : Nat := 12
abbrev i_need_index : Nat := 13
abbrev i_start_chance : Nat := 14
abbrev i_greatest_chance : Nat := 15
abbrev i_odds_start : Nat := 16
abbrev i_are_best_starts : Nat := 17
abbrev i_odds_from : Nat := 18
abbrev i__law_roll : Nat := 19
abbrev i__law_some : Nat := 20
abbrev i__law_sort : Nat := 21
abbrev i__law_like : Nat := 22
abbrev i__law_gcd : Nat := 23
abbrev i__law_low : Nat := 24
abbrev i__law_plus : Nat := 25
abbrev i__law_times : Nat := 26
abbrev i__law_lead : Nat := 27
abbrev i__law_chances : Nat := 28
abbrev i__law_other : Nat := 29
abbrev i__law_starts : Nat := 30
abbrev i__law_best : Nat := 31
abbrev i__law_counted : Nat := 32
abbrev i__law_odds : Nat := 33
abbrev i__law_right : Nat := 34
abbrev i__law_great_right : Nat := 35
abbrev i__law_written_right : Nat := 36
abbrev i__law_errors_right : Nat := 37
end K28
end
section
set_option maxRecDepth 100000
namespace K28
open VI PySem L2
def top (i : Nat) : Stmt := PySem.Challenge.pw_chanceskept_k28_whole_last_of_all.main.body.getD i (.Pass ⟨0, 0, 0, 0⟩)
def d_is_whole : DefT := ⟨defArgs (top 14), defBody (top 14), defScope (top 14), [("value" : PySem.Str), ("low" : PySem.Str), ("high" : PySem.Str)], [("value" : PySem.Str), ("low" : PySem.Str), ("high" : PySem.Str)], false⟩
def d_need_whole : DefT := ⟨defArgs (top 15), defBody (top 15), defScope (top 15), [("value" : PySem.Str), ("low" : PySem.Str), ("high" : PySem.Str)], [("value" : PySem.Str), ("low" : PySem.Str), ("high" : PySem.Str)], false⟩
def d_is_tuple_of : DefT := ⟨defArgs (top 16), defBody (top 16), defScope (top 16), [("value" : PySem.Str), ("low" : PySem.Str), ("high" : PySem.Str)], [("value" : PySem.Str), ("low" : PySem.Str), ("high" : PySem.Str)], false⟩
def d_is_portion : DefT := ⟨defArgs (top 19), defBody (top 19), defScope (top 19), [("value" : PySem.Str)], [("value" : PySem.Str)], false⟩
def d_lowest : DefT := ⟨defArgs (top 20), defBody (top 20), defScope (top 20), [("top" : PySem.Str), ("bottom" : PySem.Str)], [("top" : PySem.Str), ("bottom" : PySem.Str), ("shared" : PySem.Str)], false⟩
def d_plus : DefT := ⟨defArgs (top 21), defBody (top 21), defScope (top 21), [("one" : PySem.Str), ("other" : PySem.Str)], [("one" : PySem.Str), ("other" : PySem.Str)], false⟩
def d_times : DefT := ⟨defArgs (top 22), defBody (top 22), defScope (top 22), [("one" : PySem.Str), ("other" : PySem.Str)], [("one" : PySem.Str), ("other" : PySem.Str)], false⟩
def d_lead : DefT := ⟨defArgs (top 23), defBody (top 23), defScope (top 23), [("one" : PySem.Str), ("other" : PySem.Str)], [("one" : PySem.Str), ("other" : PySem.Str)], false⟩
def d_are_chances : DefT := ⟨defArgs (top 27), defBody (top 27), defScope (top 27), [("value" : PySem.Str)], [("value" : PySem.Str), ("part" : PySem.Str)], false⟩
def d_need_chances : DefT := ⟨defArgs (top 28), defBody (top 28), defScope (top 28), [("value" : PySem.Str)], [("value" : PySem.Str)], false⟩
def d_start_chances : DefT := ⟨defArgs (top 29), defBody (top 29), defScope (top 29), [("chances" : PySem.Str)], [("chances" : PySem.Str), ("found" : PySem.Str), ("none" : PySem.Str), ("own" : PySem.Str), ("part" : PySem.Str), ("other" : PySem.Str)], false⟩
def d_odds_in : DefT := ⟨defArgs (top 30), defBody (top 30), defScope (top 30), [("chances" : PySem.Str), ("s" : PySem.Str)], [("chances" : PySem.Str), ("s" : PySem.Str), ("total" : PySem.Str), ("part" : PySem.Str)], false⟩
def d_best_in : DefT := ⟨defArgs (top 31), defBody (top 31), defScope (top 31), [("chances" : PySem.Str)], [("chances" : PySem.Str), ("found" : PySem.Str), ("own" : PySem.Str)], false⟩
def d_need_index : DefT := ⟨defArgs (top 32), defBody (top 32), defScope (top 32), [("chances" : PySem.Str), ("s" : PySem.Str)], [("chances" : PySem.Str), ("s" : PySem.Str)], false⟩
def d_start_chance : DefT := ⟨defArgs (top 33), defBody (top 33), defScope (top 33), [("chances" : PySem.Str), ("s" : PySem.Str)], [("chances" : PySem.Str), ("s" : PySem.Str)], false⟩
def d_greatest_chance : DefT := ⟨defArgs (top 34), defBody (top 34), defScope (top 34), [("chances" : PySem.Str)], [("chances" : PySem.Str)], false⟩
def d_odds_start : DefT := ⟨defArgs (top 35), defBody (top 35), defScope (top 35), [("chances" : PySem.Str)], [("chances" : PySem.Str), ("sums" : PySem.Str), ("able" : PySem.Str), ("s" : PySem.Str), ("own" : PySem.Str)], false⟩
def d_are_best_starts : DefT := ⟨defArgs (top 36), defBody (top 36), defScope (top 36), [("chances" : PySem.Str)], [("chances" : PySem.Str), ("best" : PySem.Str), ("s" : PySem.Str), ("own" : PySem.Str)], false⟩
def d_odds_from : DefT := ⟨defArgs (top 37), defBody (top 37), defScope (top 37), [("chances" : PySem.Str), ("s" : PySem.Str)], [("chances" : PySem.Str), ("s" : PySem.Str)], false⟩
def d__law_roll : DefT := ⟨defArgs (top 40), defBody (top 40), defScope (top 40), [("cup" : PySem.Str), ("many" : PySem.Str)], [("cup" : PySem.Str), ("many" : PySem.Str), ("deep" : PySem.Str), ("found" : PySem.Str)], false⟩
def d__law_some : DefT := ⟨defArgs (top 41), defBody (top 41), defScope (top 41), [("cup" : PySem.Str), ("things" : PySem.Str)], [("cup" : PySem.Str), ("things" : PySem.Str)], false⟩
def d__law_sort : DefT := ⟨defArgs (top 42), defBody (top 42), defScope (top 42), [("value" : PySem.Str)], [("value" : PySem.Str)], false⟩
def d__law_like : DefT := ⟨defArgs (top 43), defBody (top 43), defScope (top 43), [("one" : PySem.Str), ("other" : PySem.Str)], [("one" : PySem.Str), ("other" : PySem.Str), ("sort" : PySem.Str), ("first" : PySem.Str), ("second" : PySem.Str)], false⟩
def d__law_gcd : DefT := ⟨defArgs (top 45), defBody (top 45), defScope (top 45), [("one" : PySem.Str), ("other" : PySem.Str)], [("one" : PySem.Str), ("other" : PySem.Str)], false⟩
def d__law_low : DefT := ⟨defArgs (top 46), defBody (top 46), defScope (top 46), [("top" : PySem.Str), ("bottom" : PySem.Str)], [("top" : PySem.Str), ("bottom" : PySem.Str), ("shared" : PySem.Str)], false⟩
def d__law_plus : DefT := ⟨defArgs (top 47), defBody (top 47), defScope (top 47), [("one" : PySem.Str), ("other" : PySem.Str)], [("one" : PySem.Str), ("other" : PySem.Str)], false⟩
def d__law_times : DefT := ⟨defArgs (top 48), defBody (top 48), defScope (top 48), [("one" : PySem.Str), ("other" : PySem.Str)], [("one" : PySem.Str), ("other" : PySem.Str)], false⟩
def d__law_lead : DefT := ⟨defArgs (top 49), defBody (top 49), defScope (top 49), [("one" : PySem.Str), ("other" : PySem.Str)], [("one" : PySem.Str), ("other" : PySem.Str)], false⟩
def d__law_chances : DefT := ⟨defArgs (top 50), defBody (top 50), defScope (top 50), [("cup" : PySem.Str), ("long" : PySem.Str), ("bottom" : PySem.Str)], [("cup" : PySem.Str), ("long" : PySem.Str), ("bottom" : PySem.Str), ("found" : PySem.Str), ("at" : PySem.Str), ("own" : PySem.Str)], false⟩
def d__law_other : DefT := ⟨defArgs (top 51), defBody (top 51), defScope (top 51), [("part" : PySem.Str)], [("part" : PySem.Str)], false⟩
def d__law_starts : DefT := ⟨defArgs (top 52), defBody (top 52), defScope (top 52), [("chances" : PySem.Str)], [("chances" : PySem.Str), ("found" : PySem.Str), ("s" : PySem.Str), ("total" : PySem.Str), ("ahead" : PySem.Str), ("at" : PySem.Str), ("none" : PySem.Str), ("part" : PySem.Str)], false⟩
def d__law_best : DefT := ⟨defArgs (top 53), defBody (top 53), defScope (top 53), [("chances" : PySem.Str)], [("chances" : PySem.Str), ("none" : PySem.Str), ("ahead" : PySem.Str), ("part" : PySem.Str), ("taken" : PySem.Str)], false⟩
def d__law_counted : DefT := ⟨defArgs (top 54), defBody (top 54), defScope (top 54), [("chances" : PySem.Str), ("s" : PySem.Str)], [("chances" : PySem.Str), ("s" : PySem.Str), ("rows" : PySem.Str), ("part" : PySem.Str), ("total" : PySem.Str), ("row" : PySem.Str), ("weight" : PySem.Str)], false⟩
def d__law_odds : DefT := ⟨defArgs (top 55), defBody (top 55), defScope (top 55), [("chances" : PySem.Str), ("s" : PySem.Str)], [("chances" : PySem.Str), ("s" : PySem.Str), ("total" : PySem.Str), ("top" : PySem.Str), ("bottom" : PySem.Str)], false⟩
def d__law_right : DefT := ⟨defArgs (top 56), defBody (top 56), defScope (top 56), [("cup" : PySem.Str), ("chances" : PySem.Str)], [("cup" : PySem.Str), ("chances" : PySem.Str), ("starts" : PySem.Str), ("best" : PySem.Str), ("many" : PySem.Str), ("s" : PySem.Str), ("told" : PySem.Str), ("due" : PySem.Str), ("first" : PySem.Str), ("able" : PySem.Str), ("own" : PySem.Str)], false⟩
def d__law_great_right : DefT := ⟨defArgs (top 57), defBody (top 57), defScope (top 57), [("cup" : PySem.Str)], [("cup" : PySem.Str), ("bottom" : PySem.Str), ("many" : PySem.Str), ("alike" : PySem.Str), ("start" : PySem.Str), ("left" : PySem.Str), ("tops" : PySem.Str), ("bottoms" : PySem.Str), ("turn" : PySem.Str), ("told" : PySem.Str), ("due" : PySem.Str), ("sure" : PySem.Str)], false⟩
def d__law_written_right : DefT := ⟨defArgs (top 58), defBody (top 58), defScope (top 58), [], [("half" : PySem.Str), ("told" : PySem.Str), ("due" : PySem.Str)], false⟩
def d__law_errors_right : DefT := ⟨defArgs (top 59), defBody (top 59), defScope (top 59), [], [("words" : PySem.Str), ("two" : PySem.Str), ("odds" : PySem.Str), ("odd" : PySem.Str), ("call" : PySem.Str)], true⟩
def d__law_cup : DefT := ⟨defArgs (top 39), defBody (top 39), defScope (top 39), [("script" : PySem.Str)], [("script" : PySem.Str), ("cell" : PySem.Str)], false⟩
def d__law_error : DefT := ⟨defArgs (top 44), defBody (top 44), defScope (top 44), [("call" : PySem.Str)], [("call" : PySem.Str), ("e" : PySem.Str), ("some" : PySem.Str), ("word" : PySem.Str), ("is_so" : PySem.Str)], false⟩
def d_law : DefT := ⟨defArgs (top 60), defBody (top 60), defScope (top 60), [("script" : PySem.Str)], [("script" : PySem.Str), ("cup" : PySem.Str), ("turn" : PySem.Str)], false⟩
def defs : List DefT := [d_is_whole, d_need_whole, d_is_tuple_of, d_is_portion, d_lowest, d_plus, d_times, d_lead, d_are_chances, d_need_chances, d_start_chances, d_odds_in, d_best_in, d_need_index, d_start_chance, d_greatest_chance, d_odds_start, d_are_best_starts, d_odds_from, d__law_roll, d__law_some, d__law_sort, d__law_like, d__law_gcd, d__law_low, d__law_plus, d__law_times, d__law_lead, d__law_chances, d__law_other, d__law_starts, d__law_best, d__law_counted, d__law_odds, d__law_right, d__law_great_right, d__law_written_right, d__law_errors_right]
def G : Cst := ⟨[(("is_whole" : PySem.Str), 3), (("need_whole" : PySem.Str), 3), (("is_tuple_of" : PySem.Str), 3), (("is_portion" : PySem.Str), 1), (("lowest" : PySem.Str), 2), (("plus" : PySem.Str), 2), (("times" : PySem.Str), 2), (("lead" : PySem.Str), 2), (("are_chances" : PySem.Str), 1), (("need_chances" : PySem.Str), 1), (("start_chances" : PySem.Str), 1), (("odds_in" : PySem.Str), 2), (("best_in" : PySem.Str), 1), (("need_index" : PySem.Str), 2), (("start_chance" : PySem.Str), 2), (("greatest_chance" : PySem.Str), 1), (("odds_start" : PySem.Str), 1), (("are_best_starts" : PySem.Str), 1), (("odds_from" : PySem.Str), 2), (("_law_roll" : PySem.Str), 2), (("_law_some" : PySem.Str), 2), (("_law_sort" : PySem.Str), 1), (("_law_like" : PySem.Str), 2), (("_law_gcd" : PySem.Str), 2), (("_law_low" : PySem.Str), 2), (("_law_plus" : PySem.Str), 2), (("_law_times" : PySem.Str), 2), (("_law_lead" : PySem.Str), 2), (("_law_chances" : PySem.Str), 3), (("_law_other" : PySem.Str), 1), (("_law_starts" : PySem.Str), 1), (("_law_best" : PySem.Str), 1), (("_law_counted" : PySem.Str), 2), (("_law_odds" : PySem.Str), 2), (("_law_right" : PySem.Str), 2), (("_law_great_right" : PySem.Str), 1), (("_law_written_right" : PySem.Str), 0), (("_law_errors_right" : PySem.Str), 0)], [(("GREAT" : PySem.Str), c_GREAT), (("LONG" : PySem.Str), c_LONG), (("BOTTOM" : PySem.Str), c_BOTTOM)], [("abs" : PySem.Str), ("all" : PySem.Str), ("bool" : PySem.Str), ("enumerate" : PySem.Str), ("int" : PySem.Str), ("isinstance" : PySem.Str), ("len" : PySem.Str), ("list" : PySem.Str), ("max" : PySem.Str), ("range" : PySem.Str), ("str" : PySem.Str), ("sum" : PySem.Str), ("tuple" : PySem.Str), ("zip" : PySem.Str)], true, [("ChanceError" : PySem.Str), ("InvalidNumber" : PySem.Str), ("InvalidSet" : PySem.Str), ("InvalidPortion" : PySem.Str), ("InvalidChain" : PySem.Str), ("InvalidPlace" : PySem.Str), ("InvalidRewards" : PySem.Str), ("InvalidRule" : PySem.Str), ("InvalidTimes" : PySem.Str), ("InvalidChances" : PySem.Str), ("InvalidOrder" : PySem.Str)], [[0, 1, 2, 3, 4, 5, 6, 7, 8, 9, 10], [1], [2], [3], [4], [5], [6], [7], [8], [9], [10]], [("_law_error" : PySem.Str)], [("_law_errors_right" : PySem.Str)]⟩
end K28
end
section
set_option maxRecDepth 100000
set_option maxHeartbeats 0
namespace K28H
open PySem PySem.Spec PyProof.Rows L2 K28 VI
abbrev R : PySem.W.OpenRow := PySem.W.OpenLaw.row PySem.Challenge.rw_chanceskept_k28_whole_last_of_all
abbrev qv : Program := PySem.W.view R.prog [0, 60]
def names : List PySem.Str := [("ChanceError" : PySem.Str), ("InvalidNumber" : PySem.Str), ("InvalidSet" : PySem.Str), ("InvalidPortion" : PySem.Str), ("InvalidChain" : PySem.Str), ("InvalidPlace" : PySem.Str), ("InvalidRewards" : PySem.Str), ("InvalidRule" : PySem.Str), ("InvalidTimes" : PySem.Str), ("InvalidChances" : PySem.Str), ("InvalidOrder" : PySem.Str), ("is_whole" : PySem.Str), ("need_whole" : PySem.Str), ("is_tuple_of" : PySem.Str), ("GREAT" : PySem.Str), ("is_portion" : PySem.Str), ("lowest" : PySem.Str), ("plus" : PySem.Str), ("times" : PySem.Str), ("lead" : PySem.Str), ("LONG" : PySem.Str), ("BOTTOM" : PySem.Str), ("are_chances" : PySem.Str), ("need_chances" : PySem.Str), ("start_chances" : PySem.Str), ("odds_in" : PySem.Str), ("best_in" : PySem.Str), ("need_index" : PySem.Str), ("start_chance" : PySem.Str), ("greatest_chance" : PySem.Str), ("odds_start" : PySem.Str), ("are_best_starts" : PySem.Str), ("odds_from" : PySem.Str), ("_law_cup" : PySem.Str), ("_law_roll" : PySem.Str), ("_law_some" : PySem.Str), ("_law_sort" : PySem.Str), ("_law_like" : PySem.Str), ("_law_error" : PySem.Str), ("_law_gcd" : PySem.Str), ("_law_low" : PySem.Str), ("_law_plus" : PySem.Str), ("_law_times" : PySem.Str), ("_law_lead" : PySem.Str), ("_law_chances" : PySem.Str), ("_law_other" : PySem.Str), ("_law_starts" : PySem.Str), ("_law_best" : PySem.Str), ("_law_counted" : PySem.Str), ("_law_odds" : PySem.Str), ("_law_right" : PySem.Str), ("_law_great_right" : PySem.Str), ("_law_written_right" : PySem.Str), ("_law_errors_right" : PySem.Str)]
def fa : List He.Fa := faOf G
def fn : List He.DefD := fnOf G defs [d__law_error] d__law_cup d_law
def tf : List He.Defn := lamTf G
abbrev hk : PySem.W.Hook := He.hookX 6 fa fn [] tf (exB G)
def ob (s : PySem.W.SharedT) : He.AlX := He.obsX 6 fa fn [] tf (exB G) (HandSHeadRun.getT s)
theorem ob_eq (s : PySem.W.SharedT) : ob s = hk.obs s.abs := He.obsX_eq (HandSHeadRun.getT_eq s)
theorem run (w : World) : HandSHeadRun.RunEqI R qv hk ob 6000 names w := by
  unfold HandSHeadRun.RunEqI
  kernel_rfl
end K28H
end
section
set_option maxRecDepth 100000
namespace VI
open PySem
/-! ### runs, step by step (no text in sight) -/
section
variable {cl : Nat → List D → M D} {et : Nat → Str × (Nat → Option Str)} {ars : List Nat} {env : Env} {w w1 w2 w3 : List D} {a b c e : E} {x y z d : D} {es : Es} {xs ys : List D} {i k : Nat}
theorem bind_ok' {α β : Type} {m : M α} {f : α → M β} {a : α} {r : R β} (h : m w = .ok a w1) (h2 : f a w1 = r) : M.bind m f w = r := by
  unfold M.bind
  rw [h]
  exact h2
theorem bind_ex {α β : Type} {m : M α} {f : α → M β} {k : Nat} (h : m w = .ex k w1) : M.bind m f w = .ex k w1 := by
  unfold M.bind
  rw [h]
theorem lift_ok {α : Type} {o : Option α} {a : α} (h : o = some a) : liftO o w = .ok a w := by rw [h]; rfl
theorem ev_var (h : env[i]? = some (some d)) : evalE cl et ars (.var i) env w = .ok d w := by
  show getV env i w = _
  unfold getV
  rw [h]; rfl
theorem ev_con : evalE cl et ars (.con d) env w = .ok d w := rfl
theorem ev_bin {o : BOp} (h1 : evalE cl et ars a env w = .ok x w1) (h2 : evalE cl et ars b env w1 = .ok y w2) (h : binD o x y = some z) : evalE cl et ars (.bin o a b) env w = .ok z w2 :=
  bind_ok' h1 (bind_ok' h2 (lift_ok h))
theorem ev_neg (h1 : evalE cl et ars a env w = .ok x w1) (h : negD x = some z) : evalE cl et ars (.neg a) env w = .ok z w1 := bind_ok' h1 (lift_ok h)
theorem ev_not {k : Bool} (h1 : evalE cl et ars a env w = .ok (.bl k) w1) : evalE cl et ars (.not a) env w = .ok (.bl (!k)) w1 := bind_ok' h1 rfl
theorem ev_cmp {o : COp} {k : Bool} (h1 : evalE cl et ars a env w = .ok x w1) (h2 : evalE cl et ars b env w1 = .ok y w2) (h : cmpD o x y = some k) : evalE cl et ars (.cmp o a b) env w = .ok (.bl k) w2 :=
  bind_ok' h1 (bind_ok' h2 (bind_ok' (lift_ok h) rfl))
theorem ev_chainF {o o2 : COp} (h1 : evalE cl et ars a env w = .ok x w1) (h2 : evalE cl et ars b env w1 = .ok y w2) (h : cmpD o x y = some false) : evalE cl et ars (.chain o o2 a b c) env w = .ok (.bl false) w2 :=
  bind_ok' h1 (bind_ok' h2 (bind_ok' (lift_ok h) rfl))
theorem ev_chainT {o o2 : COp} {k : Bool} (h1 : evalE cl et ars a env w = .ok x w1) (h2 : evalE cl et ars b env w1 = .ok y w2) (h : cmpD o x y = some true) (h3 : evalE cl et ars c env w2 = .ok z w3) (h4 : cmpD o2 y z = some k) : evalE cl et ars (.chain o o2 a b c) env w = .ok (.bl k) w3 :=
  bind_ok' h1 (bind_ok' h2 (bind_ok' (lift_ok h) (bind_ok' h3 (bind_ok' (lift_ok h4) rfl))))
theorem ev_andF (h1 : evalE cl et ars a env w = .ok (.bl false) w1) : evalE cl et ars (.and a b) env w = .ok (.bl false) w1 := bind_ok' h1 rfl
theorem ev_andT {k : Bool} (h1 : evalE cl et ars a env w = .ok (.bl true) w1) (h2 : evalE cl et ars b env w1 = .ok (.bl k) w2) : evalE cl et ars (.and a b) env w = .ok (.bl k) w2 := bind_ok' h1 (bind_ok' (a := true) rfl (bind_ok' h2 rfl))
theorem ev_orT (h1 : evalE cl et ars a env w = .ok (.bl true) w1) : evalE cl et ars (.or a b) env w = .ok (.bl true) w1 := bind_ok' h1 rfl
theorem ev_orF {k : Bool} (h1 : evalE cl et ars a env w = .ok (.bl false) w1) (h2 : evalE cl et ars b env w1 = .ok (.bl k) w2) : evalE cl et ars (.or a b) env w = .ok (.bl k) w2 := bind_ok' h1 (bind_ok' (a := false) rfl (bind_ok' h2 rfl))
theorem ev_iteT {r : R D} (h1 : evalE cl et ars c env w = .ok (.bl true) w1) (h2 : evalE cl et ars a env w1 = r) : evalE cl et ars (.ite c a b) env w = r := bind_ok' h1 (bind_ok' (a := true) rfl h2)
theorem ev_iteF {r : R D} (h1 : evalE cl et ars c env w = .ok (.bl false) w1) (h2 : evalE cl et ars b env w1 = r) : evalE cl et ars (.ite c a b) env w = r := bind_ok' h1 (bind_ok' (a := false) rfl h2)
theorem ev_nil : evalEs cl et ars .nil env w = .ok [] w := rfl
theorem ev_cons (h1 : evalE cl et ars e env w = .ok x w1) (h2 : evalEs cl et ars es env w1 = .ok xs w2) : evalEs cl et ars (.cons e es) env w = .ok (x :: xs) w2 := bind_ok' h1 (bind_ok' h2 rfl)
theorem ev_tup (h : evalEs cl et ars es env w = .ok xs w1) : evalE cl et ars (.tup es) env w = .ok (.tup xs) w1 := bind_ok' h rfl
theorem ev_lst (h : evalEs cl et ars es env w = .ok xs w1) : evalE cl et ars (.lst es) env w = .ok (.lst xs) w1 := bind_ok' h rfl
theorem ev_bi {q : Bi} (h : evalEs cl et ars es env w = .ok xs w1) (h2 : biD q xs = some z) : evalE cl et ars (.bi q es) env w = .ok z w1 := bind_ok' h (lift_ok h2)
theorem ev_idx {r : R D} (h1 : evalE cl et ars a env w = .ok x w1) (h2 : evalE cl et ars b env w1 = .ok y w2) (h : readCup x y w2 = r) : evalE cl et ars (.idx a b) env w = r := bind_ok' h1 (bind_ok' h2 h)
theorem ev_call {f : Nat} {r : R D} (h : evalEs cl et ars es env w = .ok xs w1) (h2 : cl f xs w1 = r) : evalE cl et ars (.call f es) env w = r := bind_ok' h h2
theorem ev_isi {ts : List Ty} {k : Bool} (h1 : evalE cl et ars a env w = .ok x w1) (h : isiD x ts = some k) : evalE cl et ars (.isi a ts) env w = .ok (.bl k) w1 := bind_ok' h1 (bind_ok' (lift_ok h) rfl)
end
end VI
end
section
set_option maxRecDepth 100000
namespace VI
open PySem
/-! ### statements, calls, step by step -/
section
variable {cl : Nat → List D → M D} {et : Nat → Str × (Nat → Option Str)} {ars : List Nat} {env env' env2 : Env} {w w1 w2 w3 : List D} {e i c : E} {d x y v k : D} {es : Es} {ds : List D} {s : S} {ss a b : Ss} {r : R F} {t : T}
theorem xs_nil : execs cl et ars .nil env w = .ok (.nx env) w := rfl
theorem xs_cons (h : exec cl et ars s env w = .ok (.nx env') w1) (h2 : execs cl et ars ss env' w1 = r) : execs cl et ars (.cons s ss) env w = r := bind_ok' h h2
theorem xs_ret (h : exec cl et ars s env w = .ok (.ret d) w1) : execs cl et ars (.cons s ss) env w = .ok (.ret d) w1 := bind_ok' h rfl
theorem xs_ex {n : Nat} (h : exec cl et ars s env w = .ex n w1) : execs cl et ars (.cons s ss) env w = .ex n w1 := bind_ex h
theorem x_asg (h : evalE cl et ars e env w = .ok d w1) (h2 : bindT t d env = some env') : exec cl et ars (.asg t e) env w = .ok (.nx env') w1 := bind_ok' h (bind_ok' (lift_ok h2) rfl)
theorem x_par {is : List Nat} (h : evalEs cl et ars es env w = .ok ds w1) (h2 : setParts is ds env = some env') : exec cl et ars (.par is es) env w = .ok (.nx env') w1 := bind_ok' h (bind_ok' (lift_ok h2) rfl)
theorem x_expr (h : evalE cl et ars e env w = .ok d w1) : exec cl et ars (.expr e) env w = .ok (.nx env) w1 := bind_ok' h rfl
theorem x_exprX {n : Nat} (h : evalE cl et ars e env w = .ex n w1) : exec cl et ars (.expr e) env w = .ex n w1 := bind_ex h
theorem x_ret (h : evalE cl et ars e env w = .ok d w1) : exec cl et ars (.ret e) env w = .ok (.ret d) w1 := bind_ok' h rfl
theorem x_iteT (h : evalE cl et ars c env w = .ok (.bl true) w1) (h2 : execs cl et ars a env w1 = r) : exec cl et ars (.ite c a b) env w = r := bind_ok' h (bind_ok' (a := true) rfl h2)
theorem x_iteF (h : evalE cl et ars c env w = .ok (.bl false) w1) (h2 : execs cl et ars b env w1 = r) : exec cl et ars (.ite c a b) env w = r := bind_ok' h (bind_ok' (a := false) rfl h2)
theorem x_setC {n : Nat} (h : evalE cl et ars e env w = .ok v w1) (h0 : env[n]? = some (some d)) (h2 : evalE cl et ars i env w1 = .ok k w2) (h3 : setC env d k v w2 = r) : exec cl et ars (.setC n i e) env w = r :=
  bind_ok' h (bind_ok' (ev_var (cl := cl) (et := et) (ars := ars) h0) (bind_ok' h2 h3))
theorem x_for {it : E} {q : Ss} {xs : List D} (h : evalE cl et ars it env w = .ok d w1) (h2 : isSeq d = some xs) (h3 : forL (fun d env => M.bind (liftO (bindT t d env)) fun env' => execs cl et ars q env') xs env w1 = r) : exec cl et ars (.for t it q) env w = r := bind_ok' h (bind_ok' (lift_ok h2) h3)
/-- a for: from turn to turn -/
theorem for_inv {f : D → Env → M F} (P : Nat → Env → List D → Prop) : ∀ (xs : List D) (n : Nat) (env : Env) (w : List D), P n env w →
    (∀ j env w x, P (n + j) env w → xs[j]? = some x → ∃ env' w', f x env w = .ok (.nx env') w' ∧ P (n + j + 1) env' w') → ∃ env' w', forL f xs env w = .ok (.nx env') w' ∧ P (n + xs.length) env' w'
  | [], n, env, w, h, _ => ⟨env, w, rfl, h⟩
  | x :: xs, n, env, w, h, st => by
    obtain ⟨env1, w1, e1, p1⟩ := st 0 env w x h rfl
    obtain ⟨env2, w2, e2, p2⟩ := for_inv P xs (n + 1) env1 w1 p1 fun j env w y q e => by
      have := st (j + 1) env w y (by rw [show n + (j + 1) = n + 1 + j by omega]; exact q) (by simpa using e)
      rw [show n + (j + 1) + 1 = n + 1 + j + 1 by omega] at this
      exact this
    refine ⟨env2, w2, bind_ok' e1 e2, ?_⟩
    rw [List.length_cons, show n + (xs.length + 1) = n + 1 + xs.length by omega]
    exact p2
/-- a call of a def that gives a value -/
theorem run_ret {P : Prog} {n f : Nat} {fn : Fn} {args : List D} {d : D} (h : P.fns[f]? = some fn) (ha : args.length = fn.ar) (hb : execs (run P n) (etOf P) (P.fns.map Fn.ar) fn.body (args.map some ++ List.replicate (fn.slots - fn.ar) none) w = .ok (.ret d) w1) : run P (n + 1) f args w = .ok d w1 := by
  show (match P.fns[f]? with
    | some fn => if args.length = fn.ar then M.bind (execs (run P n) (etOf P) (P.fns.map Fn.ar) fn.body (args.map some ++ List.replicate (fn.slots - fn.ar) none)) endOf else M.no
    | none => M.no) w = _
  rw [h]
  dsimp only
  rw [if_pos ha]
  exact bind_ok' hb rfl
theorem run_nx {P : Prog} {n f : Nat} {fn : Fn} {args : List D} (h : P.fns[f]? = some fn) (ha : args.length = fn.ar) (hb : execs (run P n) (etOf P) (P.fns.map Fn.ar) fn.body (args.map some ++ List.replicate (fn.slots - fn.ar) none) w = .ok (.nx env) w1) : run P (n + 1) f args w = .ok .non w1 := by
  show (match P.fns[f]? with
    | some fn => if args.length = fn.ar then M.bind (execs (run P n) (etOf P) (P.fns.map Fn.ar) fn.body (args.map some ++ List.replicate (fn.slots - fn.ar) none)) endOf else M.no
    | none => M.no) w = _
  rw [h]
  dsimp only
  rw [if_pos ha]
  exact bind_ok' hb rfl
end
end VI
end
section
set_option maxRecDepth 100000
namespace VI
open PySem
/-! ### steps that leave the branch open -/
section
variable {cl : Nat → List D → M D} {et : Nat → Str × (Nat → Option Str)} {ars : List Nat} {env env' env2 : Env} {w w1 w2 w3 : List D} {e i c : E} {d x y z v : D} {es : Es} {ds xs ys : List D} {s : S} {ss sa sb : Ss} {a b : E} {t : T} {k k1 : Bool}
/-- one of two, by a truth -/
inductive Pick {α : Type} (k : Bool) (x y : List D → R α) (w : List D) (r : R α) : Prop
  | t (hk : k = true) (h : x w = r) : Pick k x y w r
  | f (hk : k = false) (h : y w = r) : Pick k x y w r
theorem Pick.to {α : Type} {k : Bool} {x y : M α} {w : List D} {r : R α} (h : Pick k x y w r) : (if k = true then x else y) w = r := by
  cases h with
  | t hk h => rw [hk]; exact h
  | f hk h => rw [hk]; exact h
inductive EvB (cl : Nat → List D → M D) (et : Nat → Str × (Nat → Option Str)) (ars : List Nat) (b : E) (env : Env) (w : List D) : R D → Prop
  | mk (k : Bool) (w1 : List D) (h : evalE cl et ars b env w = .ok (.bl k) w1) : EvB cl et ars b env w (.ok (.bl k) w1)
inductive AndR (cl : Nat → List D → M D) (et : Nat → Str × (Nat → Option Str)) (ars : List Nat) (k : Bool) (b : E) (env : Env) (w : List D) : R D → Prop
  | t (hk : k = true) (k2 : Bool) (w1 : List D) (h : evalE cl et ars b env w = .ok (.bl k2) w1) : AndR cl et ars k b env w (.ok (.bl k2) w1)
  | f (hk : k = false) : AndR cl et ars k b env w (.ok (.bl false) w)
inductive OrR (cl : Nat → List D → M D) (et : Nat → Str × (Nat → Option Str)) (ars : List Nat) (k : Bool) (b : E) (env : Env) (w : List D) : R D → Prop
  | f (hk : k = false) (k2 : Bool) (w1 : List D) (h : evalE cl et ars b env w = .ok (.bl k2) w1) : OrR cl et ars k b env w (.ok (.bl k2) w1)
  | t (hk : k = true) : OrR cl et ars k b env w (.ok (.bl true) w)
inductive ChR (cl : Nat → List D → M D) (et : Nat → Str × (Nat → Option Str)) (ars : List Nat) (k : Bool) (o2 : COp) (y : D) (c : E) (env : Env) (w : List D) : R D → Prop
  | t (hk : k = true) (k2 : Bool) (w1 : List D) (z : D) (h : evalE cl et ars c env w = .ok z w1) (h2 : cmpD o2 y z = some k2) : ChR cl et ars k o2 y c env w (.ok (.bl k2) w1)
  | f (hk : k = false) : ChR cl et ars k o2 y c env w (.ok (.bl false) w)
theorem ev_and {r : R D} (h1 : evalE cl et ars a env w = .ok (.bl k) w1) (h2 : AndR cl et ars k b env w1 r) : evalE cl et ars (.and a b) env w = r := by
  cases h2 with
  | t hk k2 w1 h => subst hk; exact ev_andT h1 h
  | f hk => subst hk; exact ev_andF h1
theorem ev_or {r : R D} (h1 : evalE cl et ars a env w = .ok (.bl k) w1) (h2 : OrR cl et ars k b env w1 r) : evalE cl et ars (.or a b) env w = r := by
  cases h2 with
  | f hk k2 w1 h => subst hk; exact ev_orF h1 h
  | t hk => subst hk; exact ev_orT h1
theorem ev_ite {r : R D} (h1 : evalE cl et ars c env w = .ok (.bl k) w1) (h2 : Pick k (evalE cl et ars a env) (evalE cl et ars b env) w1 r) : evalE cl et ars (.ite c a b) env w = r := bind_ok' h1 (bind_ok' (a := k) rfl h2.to)
theorem ev_chain {r : R D} {o o2 : COp} (h1 : evalE cl et ars a env w = .ok x w1) (h2 : evalE cl et ars b env w1 = .ok y w2) (h : cmpD o x y = some k) (h3 : ChR cl et ars k o2 y c env w2 r) : evalE cl et ars (.chain o o2 a b c) env w = r := by
  cases h3 with
  | t hk k2 w1 z h4 h5 => subst hk; exact ev_chainT h1 h2 h h4 h5
  | f hk => subst hk; exact ev_chainF h1 h2 h
theorem pure_ok {α : Type} {a : α} : M.pure a w = .ok a w := rfl
theorem xs_rest {r : R F} (h : execs cl et ars sa env w = .ok (.nx env') w1) (h2 : execs cl et ars ss env' w1 = r) (h0 : exec cl et ars s env w = execs cl et ars sa env w) : execs cl et ars (.cons s ss) env w = r := xs_cons (by rw [h0]; exact h) h2
theorem ev_mjoin {r : D} (h1 : evalE cl et ars a env w = .ok x w1) (h2 : evalE cl et ars b env w1 = .ok y w2) (h : joinD x y = some r) : evalE cl et ars (.mjoin a b) env w = .ok r w2 := bind_ok' h1 (bind_ok' h2 (lift_ok h))
theorem ev_slLo {j : Int} {r : D} (h1 : evalE cl et ars a env w = .ok x w1) (h2 : evalE cl et ars b env w1 = .ok (.int j) w2) (h : cutD x (some j) none = some r) : evalE cl et ars (.slLo a b) env w = .ok r w2 := bind_ok' h1 (bind_ok' h2 (bind_ok' (a := j) rfl (lift_ok h)))
theorem ev_slHi {j : Int} {r : D} (h1 : evalE cl et ars a env w = .ok x w1) (h2 : evalE cl et ars b env w1 = .ok (.int j) w2) (h : cutD x none (some j) = some r) : evalE cl et ars (.slHi a b) env w = .ok r w2 := bind_ok' h1 (bind_ok' h2 (bind_ok' (a := j) rfl (lift_ok h)))
theorem ev_errX {g n : Nat} {q : Str} (h : evalE cl et ars b env w = .ex n w1) (h2 : (et g).2 n = some q) : evalE cl et ars (.err g b) env w = .ok (.str q) w1 := by
  show (match evalE cl et ars b env w with
    | .ok _ w' => VI.R.ok (D.str (et g).1) w'
    | .ex c w' => match (et g).2 c with
      | some z => VI.R.ok (D.str z) w'
      | none => .no
    | .no => .no) = _
  rw [h]
  dsimp only
  rw [h2]
theorem ev_errOk {g : Nat} (h : evalE cl et ars b env w = .ok x w1) : evalE cl et ars (.err g b) env w = .ok (.str (et g).1) w1 := by
  show (match evalE cl et ars b env w with
    | .ok _ w' => VI.R.ok (D.str (et g).1) w'
    | .ex c w' => match (et g).2 c with
      | some z => VI.R.ok (D.str z) w'
      | none => .no
    | .no => .no) = _
  rw [h]
theorem bind_eq {α β : Type} {m m2 : M α} {f g : α → M β} {r : R β} (q : m w = m2 w1) (h : M.bind m2 g w1 = r) (e : ∀ a w, f a w = g a w := by intro a w; cases a <;> rfl) : M.bind m f w = r := by
  rw [← h]
  unfold M.bind
  rw [q]
  cases m2 w1 with
  | ok a w' => exact e a w'
  | ex c w' => rfl
  | no => rfl
abbrev seqTo (cl : Nat → List D → M D) (et : Nat → Str × (Nat → Option Str)) (ars : List Nat) (ss : Ss) : F → M F := fun r => match r with
  | .nx env' => execs cl et ars ss env'
  | r => M.pure r
/-- a suite, then the rest -/
inductive Sq (cl : Nat → List D → M D) (et : Nat → Str × (Nat → Option Str)) (ars : List Nat) (sa : Ss) (env : Env) (ss : Ss) (w : List D) (r : R F) : Prop
  | mk (h : M.bind (execs cl et ars sa env) (seqTo cl et ars ss) w = r) : Sq cl et ars sa env ss w r
theorem Sq.to {r : R F} (h : Sq cl et ars sa env ss w r) : M.bind (execs cl et ars sa env) (seqTo cl et ars ss) w = r := by
  cases h with
  | mk h => exact h
inductive PickS (cl : Nat → List D → M D) (et : Nat → Str × (Nat → Option Str)) (ars : List Nat) (k : Bool) (sa sb : Ss) (env : Env) (ss : Ss) (w : List D) (r : R F) : Prop
  | t (hk : k = true) (h : Sq cl et ars sa env ss w r) : PickS cl et ars k sa sb env ss w r
  | f (hk : k = false) (h : Sq cl et ars sb env ss w r) : PickS cl et ars k sa sb env ss w r
theorem xs_ite {r : R F} (h : evalE cl et ars c env w = .ok (.bl k) w1) (h2 : PickS cl et ars k sa sb env ss w1 r) : execs cl et ars (.cons (.ite c sa sb) ss) env w = r := by
  have q : exec cl et ars (.ite c sa sb) env w = (if k = true then execs cl et ars sa env else execs cl et ars sb env) w1 := bind_ok' h (bind_ok' (a := k) rfl rfl)
  cases h2 with
  | t hk h5 => subst hk; exact bind_eq q h5.to
  | f hk h5 => subst hk; exact bind_eq q h5.to
theorem sq_nil {r : R F} (h : execs cl et ars ss env w = r) : Sq cl et ars .nil env ss w r := .mk h
theorem sq_ret (h : evalE cl et ars e env w = .ok d w1) : Sq cl et ars (.cons (.ret e) sa) env ss w (.ok (.ret d) w1) := .mk (bind_ok' (xs_ret (x_ret h)) rfl)
theorem sq_raise {n : Nat} : Sq cl et ars (.cons (.raise n) sa) env ss w (.ex n w) := .mk rfl
theorem sq_cons {r : R F} (h : exec cl et ars s env w = .ok (.nx env') w1) (h2 : Sq cl et ars sa env' ss w1 r) : Sq cl et ars (.cons s sa) env ss w r := .mk (by
  have q : execs cl et ars (.cons s sa) env w = execs cl et ars sa env' w1 := bind_ok' h rfl
  exact bind_eq q h2.to)
theorem sq_nx {r : R F} (h : execs cl et ars sa env w = .ok (.nx env') w1) (h2 : execs cl et ars ss env' w1 = r) : Sq cl et ars sa env ss w r := .mk (bind_ok' h h2)
theorem sq_done (h : execs cl et ars sa env w = .ok (.ret d) w1) : Sq cl et ars sa env ss w (.ok (.ret d) w1) := .mk (bind_ok' h rfl)
theorem bin_mul {i j : Int} (h : mulOk i j = true) : binD .mul (.int i) (.int j) = some (.int (i * j)) := if_pos h
theorem bin_fdiv {i j : Int} (h : divOk j = true) : binD .fdiv (.int i) (.int j) = some (.int (i.fdiv j)) := if_pos h
theorem bin_mod {i j : Int} (h : j ≠ 0) : binD .mod (.int i) (.int j) = some (.int (i.fmod j)) := if_pos h
theorem bin_add {i j : Int} : binD .add (.int i) (.int j) = some (.int (i + j)) := rfl
theorem bin_sub {i j : Int} : binD .sub (.int i) (.int j) = some (.int (i - j)) := rfl
theorem log2_le {n m : Nat} (h : n < 2 ^ m) (hm : 0 < m) : n.log2 < m := by
  by_cases z : n = 0
  · rw [z]; simpa using hm
  · exact (Nat.log2_lt z).mpr h
theorem mulOk_of {i j : Int} (n m : Nat) (h1 : i.natAbs < 2 ^ n) (h2 : j.natAbs < 2 ^ m) (hn : 0 < n) (hm : 0 < m) (hs : n + m < 134217000) : mulOk i j = true := by
  have a := log2_le h1 hn
  have b := log2_le h2 hm
  unfold mulOk
  exact decide_eq_true (by omega)
/-- an end by an error -/
theorem run_ex {P : Prog} {n f q : Nat} {fn : Fn} {args : List D} (h : P.fns[f]? = some fn) (ha : args.length = fn.ar) (hb : execs (run P n) (etOf P) (P.fns.map Fn.ar) fn.body (args.map some ++ List.replicate (fn.slots - fn.ar) none) w = .ex q w1) : run P (n + 1) f args w = .ex q w1 := by
  show (match P.fns[f]? with
    | some fn => if args.length = fn.ar then M.bind (execs (run P n) (etOf P) (P.fns.map Fn.ar) fn.body (args.map some ++ List.replicate (fn.slots - fn.ar) none)) endOf else M.no
    | none => M.no) w = _
  rw [h]
  dsimp only
  rw [if_pos ha]
  exact bind_ex hb
theorem x_raise {n : Nat} : exec cl et ars (.raise n) env w = .ex n w := rfl
theorem xs_exX {n : Nat} (h : exec cl et ars s env w = .ex n w1) : execs cl et ars (.cons s ss) env w = .ex n w1 := bind_ex h
end
end VI
end
section
set_option maxRecDepth 100000
namespace VI
open PySem
/-! ### the steps as stiff relations (quick to match) -/
inductive Ev (cl : Nat → List D → M D) (et : Nat → Str × (Nat → Option Str)) (ars : List Nat) (e : E) (env : Env) (w : List D) (r : R D) : Prop | mk (h : evalE cl et ars e env w = r)
inductive Evs (cl : Nat → List D → M D) (et : Nat → Str × (Nat → Option Str)) (ars : List Nat) (e : Es) (env : Env) (w : List D) (r : R (List D)) : Prop | mk (h : evalEs cl et ars e env w = r)
inductive X1 (cl : Nat → List D → M D) (et : Nat → Str × (Nat → Option Str)) (ars : List Nat) (s : S) (env : Env) (w : List D) (r : R F) : Prop | mk (h : exec cl et ars s env w = r)
inductive Xs (cl : Nat → List D → M D) (et : Nat → Str × (Nat → Option Str)) (ars : List Nat) (s : Ss) (env : Env) (w : List D) (r : R F) : Prop | mk (h : execs cl et ars s env w = r)
/-- a suite, then the rest -/
inductive Sx (cl : Nat → List D → M D) (et : Nat → Str × (Nat → Option Str)) (ars : List Nat) (sa : Ss) (env : Env) (ss : Ss) (w : List D) (r : R F) : Prop | mk (h : M.bind (execs cl et ars sa env) (seqTo cl et ars ss) w = r)
inductive Cl (cl : Nat → List D → M D) (f : Nat) (xs : List D) (w : List D) (r : R D) : Prop | mk (h : cl f xs w = r)
inductive Bop (o : BOp) (x y z : D) : Prop | mk (h : binD o x y = some z)
inductive Cop (o : COp) (x y : D) (k : Bool) : Prop | mk (h : cmpD o x y = some k)
inductive Bin (b : Bi) (xs : List D) (z : D) : Prop | mk (h : biD b xs = some z)
inductive Ngd (x z : D) : Prop | mk (h : negD x = some z)
inductive Isd (x : D) (ts : List Ty) (k : Bool) : Prop | mk (h : isiD x ts = some k)
inductive Idx (x y : D) (w : List D) (r : R D) : Prop | mk (h : readCup x y w = r)
inductive Ctd (x : D) (lo hi : Option Int) (z : D) : Prop | mk (h : cutD x lo hi = some z)
inductive Jnd (x y z : D) : Prop | mk (h : joinD x y = some z)
inductive Get (env : Env) (i : Nat) (d : D) : Prop | mk (h : env[i]? = some (some d))
inductive Tru (k v : Bool) : Prop | mk (h : k = v)
theorem Ev.q {cl et ars e env w r} (h : Ev cl et ars e env w r) : evalE cl et ars e env w = r := h.1
theorem Evs.q {cl et ars e env w r} (h : Evs cl et ars e env w r) : evalEs cl et ars e env w = r := h.1
theorem X1.q {cl et ars e env w r} (h : X1 cl et ars e env w r) : exec cl et ars e env w = r := h.1
theorem Xs.q {cl et ars e env w r} (h : Xs cl et ars e env w r) : execs cl et ars e env w = r := h.1
theorem Sx.q {cl et ars sa env ss w r} (h : Sx cl et ars sa env ss w r) : M.bind (execs cl et ars sa env) (seqTo cl et ars ss) w = r := h.1
def appS : Ss → Ss → Ss
  | .nil, ss => ss
  | .cons s sa, ss => .cons s (appS sa ss)
section
variable {cl : Nat → List D → M D} {et : Nat → Str × (Nat → Option Str)} {ars : List Nat} {env env' env2 : Env} {w w1 w2 w3 : List D} {e i c : E} {d x y z v : D} {es : Es} {ds xs ys : List D} {s : S} {ss sa sb : Ss} {a b : E} {t : T} {k k1 : Bool} {j : Int} {r : R D} {rf : R F} {n : Nat}
theorem v_var (h : Get env n d) : Ev cl et ars (.var n) env w (.ok d w) := ⟨ev_var h.1⟩
theorem v_con : Ev cl et ars (.con d) env w (.ok d w) := ⟨rfl⟩
theorem v_bin {o : BOp} (h1 : Ev cl et ars a env w (.ok x w1)) (h2 : Ev cl et ars b env w1 (.ok y w2)) (h : Bop o x y z) : Ev cl et ars (.bin o a b) env w (.ok z w2) := ⟨ev_bin h1.1 h2.1 h.1⟩
theorem v_neg (h1 : Ev cl et ars a env w (.ok x w1)) (h : Ngd x z) : Ev cl et ars (.neg a) env w (.ok z w1) := ⟨ev_neg h1.1 h.1⟩
theorem v_not (h1 : Ev cl et ars a env w (.ok (.bl k) w1)) (h : Tru (!k) k1) : Ev cl et ars (.not a) env w (.ok (.bl k1) w1) := ⟨by rw [← h.1]; exact ev_not h1.1⟩
theorem v_cmp {o : COp} (h1 : Ev cl et ars a env w (.ok x w1)) (h2 : Ev cl et ars b env w1 (.ok y w2)) (h : Cop o x y k) : Ev cl et ars (.cmp o a b) env w (.ok (.bl k) w2) := ⟨ev_cmp h1.1 h2.1 h.1⟩
inductive AndV (cl : Nat → List D → M D) (et : Nat → Str × (Nat → Option Str)) (ars : List Nat) (k : Bool) (b : E) (env : Env) (w : List D) : R D → Prop
  | t (hk : Tru k true) (k2 : Bool) (w1 : List D) (h : Ev cl et ars b env w (.ok (.bl k2) w1)) : AndV cl et ars k b env w (.ok (.bl k2) w1)
  | f (hk : Tru k false) : AndV cl et ars k b env w (.ok (.bl false) w)
inductive OrV (cl : Nat → List D → M D) (et : Nat → Str × (Nat → Option Str)) (ars : List Nat) (k : Bool) (b : E) (env : Env) (w : List D) : R D → Prop
  | f (hk : Tru k false) (k2 : Bool) (w1 : List D) (h : Ev cl et ars b env w (.ok (.bl k2) w1)) : OrV cl et ars k b env w (.ok (.bl k2) w1)
  | t (hk : Tru k true) : OrV cl et ars k b env w (.ok (.bl true) w)
inductive ChV (cl : Nat → List D → M D) (et : Nat → Str × (Nat → Option Str)) (ars : List Nat) (k : Bool) (o2 : COp) (y : D) (c : E) (env : Env) (w : List D) : R D → Prop
  | t (hk : Tru k true) (k2 : Bool) (w1 : List D) (z : D) (h : Ev cl et ars c env w (.ok z w1)) (h2 : Cop o2 y z k2) : ChV cl et ars k o2 y c env w (.ok (.bl k2) w1)
  | f (hk : Tru k false) : ChV cl et ars k o2 y c env w (.ok (.bl false) w)
inductive IteV (cl : Nat → List D → M D) (et : Nat → Str × (Nat → Option Str)) (ars : List Nat) (k : Bool) (a b : E) (env : Env) (w : List D) (r : R D) : Prop
  | t (hk : Tru k true) (h : Ev cl et ars a env w r) : IteV cl et ars k a b env w r
  | f (hk : Tru k false) (h : Ev cl et ars b env w r) : IteV cl et ars k a b env w r
inductive IteS (cl : Nat → List D → M D) (et : Nat → Str × (Nat → Option Str)) (ars : List Nat) (k : Bool) (sa sb : Ss) (env : Env) (ss : Ss) (w : List D) (r : R F) : Prop
  | t (hk : Tru k true) (h : Sx cl et ars sa env ss w r) : IteS cl et ars k sa sb env ss w r
  | f (hk : Tru k false) (h : Sx cl et ars sb env ss w r) : IteS cl et ars k sa sb env ss w r
theorem v_and (h1 : Ev cl et ars a env w (.ok (.bl k) w1)) (h2 : AndV cl et ars k b env w1 r) : Ev cl et ars (.and a b) env w r := ⟨by
  cases h2 with
  | t hk k2 w1 h => cases hk with | mk hk => subst hk; exact ev_andT h1.1 h.1
  | f hk => cases hk with | mk hk => subst hk; exact ev_andF h1.1⟩
theorem v_or (h1 : Ev cl et ars a env w (.ok (.bl k) w1)) (h2 : OrV cl et ars k b env w1 r) : Ev cl et ars (.or a b) env w r := ⟨by
  cases h2 with
  | f hk k2 w1 h => cases hk with | mk hk => subst hk; exact ev_orF h1.1 h.1
  | t hk => cases hk with | mk hk => subst hk; exact ev_orT h1.1⟩
theorem v_ite (h1 : Ev cl et ars c env w (.ok (.bl k) w1)) (h2 : IteV cl et ars k a b env w1 r) : Ev cl et ars (.ite c a b) env w r := ⟨by
  cases h2 with
  | t hk h => cases hk with | mk hk => subst hk; exact ev_iteT h1.1 h.1
  | f hk h => cases hk with | mk hk => subst hk; exact ev_iteF h1.1 h.1⟩
theorem v_chain {o o2 : COp} (h1 : Ev cl et ars a env w (.ok x w1)) (h2 : Ev cl et ars b env w1 (.ok y w2)) (h : Cop o x y k) (h3 : ChV cl et ars k o2 y c env w2 r) : Ev cl et ars (.chain o o2 a b c) env w r := ⟨by
  cases h3 with
  | t hk k2 w1 z h4 h5 => cases hk with | mk hk => subst hk; exact ev_chainT h1.1 h2.1 h.1 h4.1 h5.1
  | f hk => cases hk with | mk hk => subst hk; exact ev_chainF h1.1 h2.1 h.1⟩
theorem v_nil : Evs cl et ars .nil env w (.ok [] w) := ⟨rfl⟩
theorem v_cons (h1 : Ev cl et ars e env w (.ok x w1)) (h2 : Evs cl et ars es env w1 (.ok xs w2)) : Evs cl et ars (.cons e es) env w (.ok (x :: xs) w2) := ⟨ev_cons h1.1 h2.1⟩
theorem v_tup (h : Evs cl et ars es env w (.ok xs w1)) : Ev cl et ars (.tup es) env w (.ok (.tup xs) w1) := ⟨ev_tup h.1⟩
theorem v_lst (h : Evs cl et ars es env w (.ok xs w1)) : Ev cl et ars (.lst es) env w (.ok (.lst xs) w1) := ⟨ev_lst h.1⟩
theorem v_bi {q : Bi} (h : Evs cl et ars es env w (.ok xs w1)) (h2 : Bin q xs z) : Ev cl et ars (.bi q es) env w (.ok z w1) := ⟨ev_bi h.1 h2.1⟩
theorem v_idx (h1 : Ev cl et ars a env w (.ok x w1)) (h2 : Ev cl et ars b env w1 (.ok y w2)) (h : Idx x y w2 r) : Ev cl et ars (.idx a b) env w r := ⟨ev_idx h1.1 h2.1 h.1⟩
theorem v_call {f : Nat} (h : Evs cl et ars es env w (.ok xs w1)) (h2 : Cl cl f xs w1 r) : Ev cl et ars (.call f es) env w r := ⟨ev_call h.1 h2.1⟩
theorem v_isi {ts : List Ty} (h1 : Ev cl et ars a env w (.ok x w1)) (h : Isd x ts k) : Ev cl et ars (.isi a ts) env w (.ok (.bl k) w1) := ⟨ev_isi h1.1 h.1⟩
theorem v_mjoin (h1 : Ev cl et ars a env w (.ok x w1)) (h2 : Ev cl et ars b env w1 (.ok y w2)) (h : Jnd x y d) : Ev cl et ars (.mjoin a b) env w (.ok d w2) := ⟨ev_mjoin h1.1 h2.1 h.1⟩
theorem v_slLo (h1 : Ev cl et ars a env w (.ok x w1)) (h2 : Ev cl et ars b env w1 (.ok (.int j) w2)) (h : Ctd x (some j) none d) : Ev cl et ars (.slLo a b) env w (.ok d w2) := ⟨ev_slLo h1.1 h2.1 h.1⟩
theorem v_slHi (h1 : Ev cl et ars a env w (.ok x w1)) (h2 : Ev cl et ars b env w1 (.ok (.int j) w2)) (h : Ctd x none (some j) d) : Ev cl et ars (.slHi a b) env w (.ok d w2) := ⟨ev_slHi h1.1 h2.1 h.1⟩
theorem v_slBo {j2 : Int} (h1 : Ev cl et ars a env w (.ok x w1)) (h2 : Ev cl et ars b env w1 (.ok (.int j) w2)) (h3 : Ev cl et ars c env w2 (.ok (.int j2) w3)) (h : Ctd x (some j) (some j2) d) : Ev cl et ars (.slBo a b c) env w (.ok d w3) :=
  ⟨bind_ok' h1.1 (bind_ok' h2.1 (bind_ok' (a := j) rfl (bind_ok' h3.1 (bind_ok' (a := j2) rfl (lift_ok h.1)))))⟩
theorem v_callv {f : Nat} {q : Nat} (h0 : Get env q (.fn f)) (ha : ars[f]? = some es.len) (h : Evs cl et ars es env w (.ok xs w1)) (h2 : Cl cl f xs w1 r) : Ev cl et ars (.callv q es) env w r := ⟨bind_ok' (ev_var (cl := cl) (et := et) (ars := ars) h0.1) (by
  dsimp only
  rw [if_pos ha]
  exact bind_ok' h.1 h2.1)⟩
inductive ErrV (et : Nat → Str × (Nat → Option Str)) (g : Nat) (d : D) : R D → List D → Prop
  | ok (x : D) (w1 : List D) (h : D.str (et g).1 = d) : ErrV et g d (.ok x w1) w1
  | ex (n : Nat) (w1 : List D) (q : Str) (h : (et g).2 n = some q) (h2 : D.str q = d) : ErrV et g d (.ex n w1) w1
theorem v_err {g : Nat} (h : Ev cl et ars b env w r) (h2 : ErrV et g d r w1) : Ev cl et ars (.err g b) env w (.ok d w1) := ⟨by
  cases h2 with
  | ok x w1 h3 => rw [← h3]; exact ev_errOk h.1
  | ex n w1 q h3 h4 => rw [← h4]; exact ev_errX h.1 h3⟩
variable {a' b' : Ss}
theorem execs_app : ∀ {sa : Ss} {env : Env} {w : List D}, execs cl et ars (appS sa ss) env w = M.bind (execs cl et ars sa env) (seqTo cl et ars ss) w
  | .nil, env, w => rfl
  | .cons s sa, env, w => by
    show M.bind (exec cl et ars s env) (seqTo cl et ars (appS sa ss)) w = M.bind (M.bind (exec cl et ars s env) (seqTo cl et ars sa)) (seqTo cl et ars ss) w
    unfold M.bind
    cases e : exec cl et ars s env w with
    | ok a w2 =>
      cases a with
      | nx e2 => exact execs_app
      | brk e2 => rfl
      | cont e2 => rfl
      | ret d => rfl
    | ex c w2 => rfl
    | no => rfl
theorem s_nil : Xs cl et ars .nil env w (.ok (.nx env) w) := ⟨rfl⟩
theorem s_ret (h : Ev cl et ars e env w (.ok d w1)) : Xs cl et ars (.cons (.ret e) ss) env w (.ok (.ret d) w1) := ⟨xs_ret (x_ret h.1)⟩
theorem s_retX (h : Ev cl et ars e env w (.ex n w1)) : Xs cl et ars (.cons (.ret e) ss) env w (.ex n w1) := ⟨xs_ex (bind_ex h.1)⟩
theorem s_raise : Xs cl et ars (.cons (.raise n) ss) env w (.ex n w) := ⟨rfl⟩
theorem s_asg (h : Ev cl et ars e env w (.ok d w1)) (h2 : bindT t d env = some env') (h3 : Xs cl et ars ss env' w1 rf) : Xs cl et ars (.cons (.asg t e) ss) env w rf := ⟨xs_cons (x_asg h.1 h2) h3.1⟩
theorem s_par {is : List Nat} (h : Evs cl et ars es env w (.ok ds w1)) (h2 : setParts is ds env = some env') (h3 : Xs cl et ars ss env' w1 rf) : Xs cl et ars (.cons (.par is es) ss) env w rf := ⟨xs_cons (x_par h.1 h2) h3.1⟩
theorem s_expr (h : Ev cl et ars e env w (.ok d w1)) (h3 : Xs cl et ars ss env w1 rf) : Xs cl et ars (.cons (.expr e) ss) env w rf := ⟨xs_cons (x_expr h.1) h3.1⟩
theorem s_exprX (h : Ev cl et ars e env w (.ex n w1)) : Xs cl et ars (.cons (.expr e) ss) env w (.ex n w1) := ⟨xs_ex (x_exprX h.1)⟩
theorem s_pass (h3 : Xs cl et ars ss env w rf) : Xs cl et ars (.cons .pass ss) env w rf := ⟨xs_cons (rfl : exec cl et ars .pass env w = .ok (.nx env) w) h3.1⟩
theorem s_ite (h : Ev cl et ars c env w (.ok (.bl k) w1)) (h2 : IteS cl et ars k sa sb env ss w1 rf) : Xs cl et ars (.cons (.ite c sa sb) ss) env w rf := ⟨by
  cases h2 with
  | t hk h5 => exact xs_ite h.1 (.t hk.1 (.mk h5.1))
  | f hk h5 => exact xs_ite h.1 (.f hk.1 (.mk h5.1))⟩
theorem s_app {q : Nat} (h0 : Get env q (.lst xs)) (h : Ev cl et ars e env w (.ok v w1)) (hl : decide (xs.length < line) = true) (h3 : Xs cl et ars ss (env.set q (some (.lst (xs ++ [v])))) w1 rf) : Xs cl et ars (.cons (.app q e) ss) env w rf :=
  ⟨xs_cons (bind_ok' (ev_var (cl := cl) (et := et) (ars := ars) h0.1) (bind_ok' h.1 (by
    show (if xs.length < line then M.pure (F.nx (env.set q (some (.lst (xs ++ [v]))))) else M.no) w1 = _
    rw [if_pos (of_decide_eq_true hl)]
    rfl))) h3.1⟩
theorem s_for {it : E} {q : Ss} (h : Ev cl et ars it env w (.ok d w1)) (h2 : isSeq d = some xs) (h3 : forL (fun d env => M.bind (liftO (bindT t d env)) fun env' => execs cl et ars q env') xs env w1 = .ok (.nx env') w2) (h4 : Xs cl et ars ss env' w2 rf) : Xs cl et ars (.cons (.for t it q) ss) env w rf := ⟨xs_cons (x_for h.1 h2 h3) h4.1⟩
theorem q_nil (h : Xs cl et ars ss env w rf) : Sx cl et ars .nil env ss w rf := ⟨(sq_nil h.1).to⟩
theorem q_ret (h : Ev cl et ars e env w (.ok d w1)) : Sx cl et ars (.cons (.ret e) sa) env ss w (.ok (.ret d) w1) := ⟨(sq_ret h.1).to⟩
theorem q_retX (h : Ev cl et ars e env w (.ex n w1)) : Sx cl et ars (.cons (.ret e) sa) env ss w (.ex n w1) := ⟨bind_ex (xs_ex (bind_ex h.1))⟩
theorem q_raise : Sx cl et ars (.cons (.raise n) sa) env ss w (.ex n w) := ⟨rfl⟩
theorem q_asg (h : Ev cl et ars e env w (.ok d w1)) (h2 : bindT t d env = some env') (h3 : Sx cl et ars sa env' ss w1 rf) : Sx cl et ars (.cons (.asg t e) sa) env ss w rf := ⟨(sq_cons (x_asg h.1 h2) (.mk h3.1)).to⟩
theorem q_par {is : List Nat} (h : Evs cl et ars es env w (.ok ds w1)) (h2 : setParts is ds env = some env') (h3 : Sx cl et ars sa env' ss w1 rf) : Sx cl et ars (.cons (.par is es) sa) env ss w rf := ⟨(sq_cons (x_par h.1 h2) (.mk h3.1)).to⟩
theorem q_expr (h : Ev cl et ars e env w (.ok d w1)) (h3 : Sx cl et ars sa env ss w1 rf) : Sx cl et ars (.cons (.expr e) sa) env ss w rf := ⟨(sq_cons (x_expr h.1) (.mk h3.1)).to⟩
theorem q_ite (h : Xs cl et ars (.cons (.ite c a' b') (appS sa ss)) env w rf) : Sx cl et ars (.cons (.ite c a' b') sa) env ss w rf := ⟨by
  rw [← execs_app]
  exact h.1⟩
theorem q_any (h : Xs cl et ars sa env w (.ok (.nx env') w1)) (h3 : Xs cl et ars ss env' w1 rf) : Sx cl et ars sa env ss w rf := ⟨(sq_nx h.1 h3.1).to⟩
theorem o_mul {i j : Int} (h : mulOk i j = true) : Bop .mul (.int i) (.int j) (.int (i * j)) := ⟨bin_mul h⟩
theorem o_fdiv {i j : Int} (h : divOk j = true) : Bop .fdiv (.int i) (.int j) (.int (i.fdiv j)) := ⟨bin_fdiv h⟩
theorem o_mod {i j : Int} (h : j ≠ 0) : Bop .mod (.int i) (.int j) (.int (i.fmod j)) := ⟨bin_mod h⟩
theorem o_add {i j : Int} : Bop .add (.int i) (.int j) (.int (i + j)) := ⟨rfl⟩
theorem o_sub {i j : Int} : Bop .sub (.int i) (.int j) (.int (i - j)) := ⟨rfl⟩
theorem o_neg {i : Int} : Ngd (.int i) (.int (-i)) := ⟨rfl⟩
theorem o_abs {i : Int} : Bin .abs [.int i] (.int i.natAbs) := ⟨by
  show some (D.int (if i < 0 then -i else i)) = _
  congr 2
  split <;> omega⟩
theorem o_int {i : Int} : Bin .int [.int i] (.int i) := ⟨rfl⟩
theorem o_gcd {i j : Int} : Bin .gcd [.int i, .int j] (.int (Nat.gcd i.natAbs j.natAbs : Nat)) := ⟨rfl⟩
theorem o_lenT {xs : List D} : Bin .len [.tup xs] (.int xs.length) := ⟨rfl⟩
theorem o_lenL {xs : List D} : Bin .len [.lst xs] (.int xs.length) := ⟨rfl⟩
theorem o_eqI {i j : Int} : Cop .eq (.int i) (.int j) (decide (i = j)) := ⟨rfl⟩
theorem o_ltI {i j : Int} : Cop .lt (.int i) (.int j) (decide (i < j)) := ⟨rfl⟩
theorem o_leI {i j : Int} : Cop .le (.int i) (.int j) (decide (i ≤ j)) := ⟨rfl⟩
theorem o_gtI {i j : Int} : Cop .gt (.int i) (.int j) (decide (j < i)) := ⟨rfl⟩
theorem o_geI {i j : Int} : Cop .ge (.int i) (.int j) (decide (j ≤ i)) := ⟨rfl⟩
theorem o_neI {i j : Int} : Cop .ne (.int i) (.int j) (!decide (i = j)) := ⟨rfl⟩
/-- a call's end -/
theorem r_ret {P : Prog} {n f : Nat} {fn : Fn} {args : List D} {d : D} (h : P.fns[f]? = some fn) (ha : args.length = fn.ar) (he : args.map some ++ List.replicate (fn.slots - fn.ar) none = env) (hb : Xs (run P n) (etOf P) (P.fns.map Fn.ar) fn.body env w (.ok (.ret d) w1)) : Cl (run P (n + 1)) f args w (.ok d w1) := ⟨run_ret h ha (by rw [he]; exact hb.1)⟩
theorem r_nx {P : Prog} {n f : Nat} {fn : Fn} {args : List D} (h : P.fns[f]? = some fn) (ha : args.length = fn.ar) (he : args.map some ++ List.replicate (fn.slots - fn.ar) none = env) (hb : Xs (run P n) (etOf P) (P.fns.map Fn.ar) fn.body env w (.ok (.nx env') w1)) : Cl (run P (n + 1)) f args w (.ok .non w1) := ⟨run_nx h ha (by rw [he]; exact hb.1)⟩
theorem r_ex {P : Prog} {n f q : Nat} {fn : Fn} {args : List D} (h : P.fns[f]? = some fn) (ha : args.length = fn.ar) (he : args.map some ++ List.replicate (fn.slots - fn.ar) none = env) (hb : Xs (run P n) (etOf P) (P.fns.map Fn.ar) fn.body env w (.ex q w1)) : Cl (run P (n + 1)) f args w (.ex q w1) := ⟨run_ex h ha (by rw [he]; exact hb.1)⟩
end
end VI
end
section
set_option maxRecDepth 100000
namespace VI
open PySem PySem.Spec PyProof.Rows L2


def KTup (K : PySem.W.Frag) (a : Addr) (xs : List V) : Prop := ∃ (o : Obj) (its : Array Value) (n : Nat), K.lookup a = some o ∧ o.cls = .type "tuple" ∧ o.data = .seq its n ∧ its.size ≤ sizeLine ∧ Vals xs its.toList
def TupAt (K : PySem.W.Frag) (bad : Addr → Prop) (H : Hp) (a : Addr) (xs : List V) : Prop := (H a = some (.tup xs) ∧ ¬ bad a) ∨ KTup K a xs
theorem TupAt.sq {K : PySem.W.Frag} {bad : Addr → Prop} {H : Hp} {a : Addr} {xs : List V} (h : TupAt K bad H a xs) : SqT K H a xs := h.elim (fun h => .inl (.inl h.1)) .inr
mutual
def Rep (g : Gb) (cup : Option Addr) (bad : Addr → Prop) (H : Hp) : D → V → Prop
  | .non, v => v = .non
  | .bl b, v => v = .bl b
  | .int i, v => v = .int i
  | .str s, v => v = .str s
  | .tup ds, v => ∃ a vs, v = .ref a ∧ TupAt g.K bad H a vs ∧ Reps g cup bad H ds vs
  | .lst ds, v => ∃ a vs, v = .ref a ∧ H a = some (.lst vs) ∧ ¬ bad a ∧ Reps g cup bad H ds vs
  | .fn k, v => v = .ref (g.fa k)
  | .cup, v => ∃ a, cup = some a ∧ v = .ref a
  | .exn k, v => ∃ a, g.ex = some (k, a) ∧ v = .ref a
def Reps (g : Gb) (cup : Option Addr) (bad : Addr → Prop) (H : Hp) : List D → List V → Prop
  | [], vs => vs = []
  | d :: ds, vs => ∃ v ws, vs = v :: ws ∧ Rep g cup bad H d v ∧ Reps g cup bad H ds ws
end
def noTbl (o : HO) : Prop := ∀ ps, o ≠ .tbl ps
/-- nothing, or a table -/
def NoneT (H : Hp) (b : Addr) : Prop := ∀ u, H b = some u → noTbl u → False
theorem NoneT.of {H : Hp} {b : Addr} (h : H b = none) : NoneT H b := fun u e _ => by rw [h] at e; cases e
/-- what an expression leaves: all but the shared list and the tables -/
structure Keep (cup : Option Addr) (H H' : Hp) : Prop where
  k : ∀ b o, H b = some o → cup ≠ some b → noTbl o → H' b = some o
  al : ∀ b, NoneT H' b → NoneT H b
theorem Keep.refl {cup : Option Addr} {H : Hp} : Keep cup H H := ⟨fun _ _ h _ _ => h, fun _ h => h⟩
theorem Keep.trans {cup : Option Addr} {H H1 H2 : Hp} (a : Keep cup H H1) (b : Keep cup H1 H2) : Keep cup H H2 := ⟨fun c o h n t => b.k c o (a.k c o h n t) n t, fun c h => a.al c (b.al c h)⟩
theorem Keep.new {cup : Option Addr} {H : Hp} {p : Addr} {o : HO} (h : H p = none) : Keep cup H (upd H p o) := ⟨fun b u e _ _ => by
  rw [upd_ne (ne_of_none e h)]; exact e, fun b e => by
  by_cases z : b = p
  · rw [z]; exact NoneT.of h
  · exact fun u eu => e u (by rw [upd_ne z]; exact eu)⟩
theorem noTbl_lst {xs : List V} : noTbl (.lst xs) := fun _ h => nomatch h
theorem noTbl_tup {xs : List V} : noTbl (.tup xs) := fun _ h => nomatch h

/-- heaps that agree at what is not bad -/
def Agr (bad : Addr → Prop) (H H' : Hp) : Prop := ∀ b o, H b = some o → ¬ bad b → noTbl o → H' b = some o
theorem Keep.agr {cup : Option Addr} {bad : Addr → Prop} {H H' : Hp} (k : Keep cup H H') (hb : ∀ a, cup = some a → bad a) : Agr bad H H' := fun b o h nb nt => k.k b o h (fun z => nb (hb b z)) nt
theorem Agr.tupAt {K : PySem.W.Frag} {bad bad' : Addr → Prop} {H H' : Hp} (k : Agr bad H H') (hb : ∀ a, bad' a → bad a ∨ NoneT H a) {a : Addr} {xs : List V} (h : TupAt K bad H a xs) : TupAt K bad' H' a xs := by
  rcases h with ⟨h, nb⟩ | h
  · refine .inl ⟨k _ _ h nb noTbl_tup, fun z => ?_⟩
    rcases hb a z with z | z
    · exact nb z
    · exact z _ h noTbl_tup
  · exact .inr h
section
variable {g : Gb} {cup cup' : Option Addr} {bad bad' : Addr → Prop} {H H' : Hp}
mutual
theorem Rep.mono (k : Agr bad H H') (hb : ∀ a, bad' a → bad a ∨ NoneT H a) (hc : ∀ a, cup = some a → cup' = some a) : ∀ {d : D} {v : V}, Rep g cup bad H d v → Rep g cup' bad' H' d v
  | .non, _, h => h
  | .bl _, _, h => h
  | .int _, _, h => h
  | .str _, _, h => h
  | .fn _, _, h => h
  | .exn _, _, h => h
  | .cup, _, ⟨a, h1, h2⟩ => ⟨a, hc a h1, h2⟩
  | .tup ds, v, h => by
    obtain ⟨a, vs, h1, h2, h3⟩ := h
    exact ⟨a, vs, h1, k.tupAt hb h2, Reps.mono k hb hc h3⟩
  | .lst ds, v, h => by
    obtain ⟨a, vs, h1, h2, h3, h4⟩ := h
    refine ⟨a, vs, h1, k _ _ h2 h3 noTbl_lst, fun z => ?_, Reps.mono k hb hc h4⟩
    rcases hb a z with z | z
    · exact h3 z
    · exact z _ h2 noTbl_lst
theorem Reps.mono (k : Agr bad H H') (hb : ∀ a, bad' a → bad a ∨ NoneT H a) (hc : ∀ a, cup = some a → cup' = some a) : ∀ {ds : List D} {vs : List V}, Reps g cup bad H ds vs → Reps g cup' bad' H' ds vs
  | [], _, h => h
  | d :: ds, vs, h => by
    obtain ⟨v, ws, h1, h2, h3⟩ := h
    exact ⟨v, ws, h1, Rep.mono k hb hc h2, Reps.mono k hb hc h3⟩
end
theorem Reps.length : ∀ {ds : List D} {vs : List V}, Reps g cup bad H ds vs → ds.length = vs.length
  | [], _, h => by cases h; rfl
  | d :: ds, vs, h => by
    obtain ⟨v, ws, rfl, _, h3⟩ := h
    simp [Reps.length h3]
theorem Reps.get : ∀ {ds : List D} {vs : List V} {i : Nat} {d : D}, Reps g cup bad H ds vs → ds[i]? = some d → ∃ v, vs[i]? = some v ∧ Rep g cup bad H d v
  | [], _, _, _, _, e => by simp at e
  | d :: ds, vs, 0, x, h, e => by
    obtain ⟨v, ws, rfl, h2, h3⟩ := h
    have e' : d = x := by simpa using e
    subst e'
    exact ⟨v, rfl, h2⟩
  | d :: ds, vs, i + 1, x, h, e => by
    obtain ⟨v, ws, rfl, h2, h3⟩ := h
    obtain ⟨u, h4, h5⟩ := Reps.get (i := i) h3 (by simpa using e)
    exact ⟨u, by simpa using h4, h5⟩
theorem Reps.of_get : ∀ {ds : List D} {vs : List V}, ds.length = vs.length → (∀ (i : Nat) d v, ds[i]? = some d → vs[i]? = some v → Rep g cup bad H d v) → Reps g cup bad H ds vs
  | [], [], _, _ => rfl
  | [], _ :: _, h, _ => by simp at h
  | _ :: _, [], h, _ => by simp at h
  | d :: ds, v :: vs, h, f => ⟨v, vs, rfl, f 0 d v rfl rfl, Reps.of_get (by simpa using h) fun i d' v' h1 h2 => f (i + 1) d' v' (by simpa using h1) (by simpa using h2)⟩
theorem Reps.append : ∀ {ds es : List D} {vs ws : List V}, Reps g cup bad H ds vs → Reps g cup bad H es ws → Reps g cup bad H (ds ++ es) (vs ++ ws)
  | [], _, _, _, h, h' => by cases h; exact h'
  | d :: ds, es, vs, ws, h, h' => by
    obtain ⟨v, us, rfl, h2, h3⟩ := h
    exact ⟨v, us ++ ws, rfl, h2, Reps.append h3 h'⟩
theorem Reps.cons {d : D} {v : V} {ds : List D} {vs : List V} (h : Rep g cup bad H d v) (hs : Reps g cup bad H ds vs) : Reps g cup bad H (d :: ds) (v :: vs) := ⟨v, vs, rfl, h, hs⟩
theorem Reps.nil : Reps g cup bad H [] [] := rfl
theorem Reps.set {ds : List D} {vs : List V} {d : D} {v : V} (j : Nat) (h : Reps g cup bad H ds vs) (hd : Rep g cup bad H d v) : Reps g cup bad H (ds.set j d) (vs.set j v) := by
  refine Reps.of_get (by simp [h.length]) fun i d' v' h1 h2 => ?_
  by_cases e : j = i
  · subst e
    have hl := h.length
    by_cases hj : j < ds.length
    · rw [List.getElem?_set_self hj] at h1
      rw [List.getElem?_set_self (by omega)] at h2
      cases h1; cases h2; exact hd
    · rw [List.getElem?_eq_none (by simpa using hj)] at h1; cases h1
  · rw [List.getElem?_set_ne e] at h1 h2
    obtain ⟨u, h3, h4⟩ := h.get h1
    rw [h2] at h3; cases h3; exact h4
theorem Reps.take {ds : List D} {vs : List V} (n : Nat) (h : Reps g cup bad H ds vs) : Reps g cup bad H (ds.take n) (vs.take n) :=
  Reps.of_get (by simp [h.length]) fun i d v h1 h2 => by
    rw [List.getElem?_take] at h1 h2
    split at h1
    · rename_i q
      rw [if_pos q] at h2
      obtain ⟨u, h3, h4⟩ := h.get h1
      rw [h2] at h3; cases h3; exact h4
    · cases h1
theorem Reps.drop {ds : List D} {vs : List V} (n : Nat) (h : Reps g cup bad H ds vs) : Reps g cup bad H (ds.drop n) (vs.drop n) :=
  Reps.of_get (by simp [h.length]) fun i d v h1 h2 => by
    rw [List.getElem?_drop] at h1 h2
    obtain ⟨u, h3, h4⟩ := h.get h1
    rw [h2] at h3; cases h3; exact h4
theorem Reps.reverse {ds : List D} {vs : List V} (h : Reps g cup bad H ds vs) : Reps g cup bad H ds.reverse vs.reverse := by
  induction ds generalizing vs with
  | nil => cases h; exact Reps.nil
  | cons d ds ih =>
    obtain ⟨v, ws, rfl, h2, h3⟩ := h
    rw [List.reverse_cons, List.reverse_cons]
    exact (ih h3).append (Reps.cons h2 Reps.nil)
theorem Reps.rep {ds : List D} {vs : List V} (h : Reps g cup bad H ds vs) : ∀ n, Reps g cup bad H (reps n ds) (List.replicate n vs).flatten
  | 0 => Reps.nil
  | n + 1 => by
    have e1 : reps (n + 1) ds = ds ++ reps n ds := by simp [reps, List.replicate_succ]
    have e2 : (List.replicate (n + 1) vs).flatten = vs ++ (List.replicate n vs).flatten := by simp [List.replicate_succ]
    rw [e1, e2]
    exact h.append (Reps.rep h n)
end

/-! ### the state of a def's body -/
/-- a body's ground: T the code tables, cup the shared list, b0 the callers' own lists, H0 the heap at the entry, Own the body's own lists by slots, env and σ the slots -/
structure Fr where
  T : List (Addr × Str)
  cup : Option Addr
  b0 : Addr → Prop
  H0 : Hp
  Own : List (Nat × Addr)
  env : Env
  σ : L2.St
/-- which addresses may be written -/
def Fr.bad (c : Fr) (a : Addr) : Prop := c.b0 a ∨ a ∈ c.Own.map (·.2)
abbrev Fr.rep (g : Gb) (c : Fr) (H : Hp) : D → V → Prop := Rep g c.cup c.bad H
abbrev Fr.reps (g : Gb) (c : Fr) (H : Hp) : List D → List V → Prop := Reps g c.cup c.bad H
/-- what a slot's value stands for -/
def Fr.slot (g : Gb) (c : Fr) (H : Hp) (i : Nat) (d : D) (v : V) : Prop :=
  (∃ a, (i, a) ∈ c.Own ∧ v = .ref a ∧ ∃ ds vs, d = .lst ds ∧ H a = some (.lst vs) ∧ c.reps g H ds vs) ∨ (i ∉ c.Own.map (·.1) ∧ c.rep g H d v)
structure Rel (g : Gb) (c : Fr) (w : List D) (H : Hp) : Prop where
  len : c.env.length = c.σ.length
  ground : Keep c.cup c.H0 H
  lists : ∀ a, c.bad a → ∃ xs, H a = some (.lst xs)
  cupB : ∀ a, c.cup = some a → c.b0 a
  new : ∀ p ∈ c.Own, NoneT c.H0 p.2 ∧ ¬ c.b0 p.2
  cupOk : ∀ a, c.cup = some a → ∃ vs, H a = some (.lst vs) ∧ c.reps g H w vs
  ndS : (c.Own.map (·.1)).Nodup
  ndA : (c.Own.map (·.2)).Nodup
  val : ∀ i d, c.env[i]? = some (some d) → ∃ v, c.σ[i]? = some (some v) ∧ c.slot g H i d v
  tabs : LamX.Tabs c.T H
section
variable {g : Gb} {c : Fr} {w w' : List D} {H H' : Hp}
theorem Rel.badCup (R : Rel g c w H) : ∀ a, c.cup = some a → c.bad a := fun a h => .inl (R.cupB a h)
theorem Rel.agr (R : Rel g c w H) (k : Keep c.cup H H') : Agr c.bad H H' := k.agr R.badCup
theorem Rel.rep (R : Rel g c w H) (k : Keep c.cup H H') {d : D} {v : V} (h : c.rep g H d v) : c.rep g H' d v := Rep.mono (R.agr k) (fun _ => .inl) (fun _ => id) h
theorem Rel.reps (R : Rel g c w H) (k : Keep c.cup H H') {d : List D} {v : List V} (h : c.reps g H d v) : c.reps g H' d v := Reps.mono (R.agr k) (fun _ => .inl) (fun _ => id) h
theorem Rel.fresh (R : Rel g c w H) {p : Addr} (h : H p = none) : ¬ c.bad p := fun z => by
  obtain ⟨xs, e⟩ := R.lists p z
  rw [h] at e; cases e
/-- tables that stand or grow elsewhere -/
theorem tabs_new {T : List (Addr × Str)} {p : Addr} {o : HO} (t : LamX.Tabs T H) (h : H p = none) : LamX.Tabs T (upd H p o) :=
  t.ext fun b u e => by rw [upd_ne (ne_of_none e h)]; exact e
/-- a new object -/
theorem Rel.add (R : Rel g c w H) {p : Addr} {o : HO} (h : H p = none) : Rel g c w (upd H p o) where
  len := R.len
  ground := R.ground.trans (Keep.new h)
  lists := fun a z => by
    obtain ⟨xs, e⟩ := R.lists a z
    exact ⟨xs, by rw [upd_ne (ne_of_none e h)]; exact e⟩
  cupB := R.cupB
  new := R.new
  cupOk := fun a z => by
    obtain ⟨vs, e, q⟩ := R.cupOk a z
    exact ⟨vs, by rw [upd_ne (ne_of_none e h)]; exact e, R.reps (Keep.new h) q⟩
  ndS := R.ndS
  ndA := R.ndA
  val := fun i d e => by
    obtain ⟨v, h1, h2⟩ := R.val i d e
    refine ⟨v, h1, ?_⟩
    rcases h2 with ⟨a, h3, h4, ds, vs, h5, h6, h7⟩ | ⟨h3, h4⟩
    · exact .inl ⟨a, h3, h4, ds, vs, h5, by rw [upd_ne (ne_of_none h6 h)]; exact h6, R.reps (Keep.new h) h7⟩
    · exact .inr ⟨h3, R.rep (Keep.new h) h4⟩
  tabs := tabs_new R.tabs h
end

/-! ### what a run asks of the heaps -/
def Wp {α β : Type} (g : Gb) (c : Fr) (EX : XK) (m : M α) (r : Hp → α → β → Prop) (w : List D) (H : Hp) (Q : β → Hp → Prop) : Prop :=
  match m w with
  | .ok a w' => ∀ H' b, Rel g c w' H' → Keep c.cup H H' → r H' a b → Q b H'
  | .ex k w' => ∀ H', Rel g c w' H' → Keep c.cup H H' → EX (.ref (g.ca k)) none H'
  | .no => False
section
variable {α β γ δ : Type} {g : Gb} {c : Fr} {EX : XK} {w : List D} {H : Hp}
theorem Wp.bind {m : M α} {f : α → M γ} {r : Hp → γ → δ → Prop} {s : Hp → α → β → Prop} {Q : δ → Hp → Prop} (h : Wp g c EX (M.bind m f) r w H Q) :
    Wp g c EX m s w H fun b H1 => ∃ a w1, Rel g c w1 H1 ∧ Keep c.cup H H1 ∧ s H1 a b ∧ Wp g c EX (f a) r w1 H1 Q ∧ m w = .ok a w1 := by
  unfold Wp M.bind at h
  unfold Wp
  cases e : m w with
  | ok a w1 =>
    rw [e] at h
    intro H1 b R k q
    refine ⟨a, w1, R, k, q, ?_, rfl⟩
    show match f a w1 with | .ok a w' => _ | .ex k w' => _ | .no => _
    have h : match f a w1 with | .ok a w' => ∀ H' b, Rel g c w' H' → Keep c.cup H H' → r H' a b → Q b H' | .ex k w' => ∀ H', Rel g c w' H' → Keep c.cup H H' → EX (.ref (g.ca k)) none H' | .no => False := h
    cases e2 : f a w1 with
    | ok a2 w2 => rw [e2] at h; exact fun H2 b2 R2 k2 q2 => h H2 b2 R2 (k.trans k2) q2
    | ex k2 w2 => rw [e2] at h; exact fun H2 R2 k3 => h H2 R2 (k.trans k3)
    | no => rw [e2] at h; exact h
  | ex k w1 => rw [e] at h; exact h
  | no => rw [e] at h; exact h
theorem Wp.pure {a : α} {r : Hp → α → β → Prop} {Q : β → Hp → Prop} {b : β} (h : Wp g c EX (M.pure a) r w H Q) (R : Rel g c w H) (q : r H a b) : Q b H := h H b R Keep.refl q
theorem Wp.pureN {a : α} {r : Hp → α → β → Prop} {Q : β → Hp → Prop} {b : β} {H' : Hp} (h : Wp g c EX (M.pure a) r w H Q) (R : Rel g c w H') (k : Keep c.cup H H') (q : r H' a b) : Q b H' := h H' b R k q
theorem Wp.lift {o : Option α} {r : Hp → α → β → Prop} {Q : β → Hp → Prop} (h : Wp g c EX (liftO o) r w H Q) : ∃ a, o = some a ∧ ∀ H' b, Rel g c w H' → Keep c.cup H H' → r H' a b → Q b H' := by
  cases o with
  | none => exact h.elim
  | some a => exact ⟨a, rfl, h⟩
theorem Wp.liftB {o : Option α} {f : α → M γ} {r : Hp → γ → β → Prop} {Q : β → Hp → Prop} (h : Wp g c EX (M.bind (liftO o) f) r w H Q) : ∃ a, o = some a ∧ Wp g c EX (f a) r w H Q := by
  cases o with
  | none => exact h.elim
  | some a => exact ⟨a, rfl, h⟩
end
end VI
end
section
set_option maxRecDepth 100000
namespace VI
open PySem PySem.Spec PyProof.Rows L2

theorem PE.weak {X : Cx} {x : Expr} {t t' : TE} (h : PE X x t) (i : ∀ σ H Q, t' σ H Q → t σ H Q) : PE X x t' := ⟨fun pins s σ H Q I q => h.run pins s σ H Q I (i _ _ _ q)⟩
theorem PT.weak {X : Cx} {x : Expr} {t t' : TT} (h : PT X x t) (i : ∀ σ H Q, t' σ H Q → t σ H Q) : PT X x t' := ⟨fun pins s σ H Q I q => h.run pins s σ H Q I (i _ _ _ q)⟩
theorem PA.weak {X : Cx} {x : List Expr} {t t' : TA} (h : PA X x t) (i : ∀ σ H Q, t' σ H Q → t σ H Q) : PA X x t' := ⟨fun pos pins s σ H Q I q => h.run pos pins s σ H Q I (i _ _ _ q)⟩
theorem PS.weak {X : Cx} {x : Stmt} {t t' : TS} (h : PS X x t) (i : ∀ D σ H, t' D σ H → t D σ H) : PS X x t' := ⟨fun pins s σ H D I q => h.run pins s σ H D I (i _ _ _ q)⟩
theorem PSs.weak {X : Cx} {x : List Stmt} {t t' : TS} (h : PSs X x t) (i : ∀ D σ H, t' D σ H → t D σ H) : PSs X x t' := ⟨fun pins s σ H D I q => h.run pins s σ H D I (i _ _ _ q)⟩

/-- a list that its name alone knows may be read at its top -/
def Fr.repW (g : Gb) (c : Fr) (H : Hp) : D → V → Prop
  | .lst ds, v => ∃ a vs, v = .ref a ∧ H a = some (.lst vs) ∧ c.reps g H ds vs
  | d, v => c.rep g H d v
theorem Fr.rep.w {g : Gb} {c : Fr} {H : Hp} {d : D} {v : V} (h : c.rep g H d v) : c.repW g H d v := by
  cases d with
  | lst ds => obtain ⟨a, vs, h1, h2, _, h4⟩ := h; exact ⟨a, vs, h1, h2, h4⟩
  | _ => exact h
theorem Rel.repW {g : Gb} {c : Fr} {w : List D} {H H' : Hp} (R : Rel g c w H) (k : Keep c.cup H H') {d : D} {v : V} (h : c.repW g H d v) (hc : ∀ a ds, d = .lst ds → v = .ref a → c.cup ≠ some a) : c.repW g H' d v := by
  cases d with
  | lst ds =>
    obtain ⟨a, vs, h1, h2, h4⟩ := h
    exact ⟨a, vs, h1, k.k _ _ h2 (hc a ds rfl h1) noTbl_lst, R.reps k h4⟩
  | _ => exact R.rep k h
/-- .. and it is not the shared one -/
def Fr.repS (s : Bool) (g : Gb) (c : Fr) (H : Hp) (d : D) (v : V) : Prop := if s = true then c.rep g H d v else c.repW g H d v ∧ ∀ a ds, d = .lst ds → v = .ref a → c.cup ≠ some a
theorem Fr.rep.s {g : Gb} {c : Fr} {w : List D} {H : Hp} {d : D} {v : V} (R : Rel g c w H) (h : c.rep g H d v) (s : Bool) : c.repS s g H d v := by
  cases s with
  | true => exact h
  | false =>
    refine ⟨h.w, fun a ds e1 e2 z => ?_⟩
    subst e1
    obtain ⟨b, vs, h1, h2, h3, h4⟩ := h
    rw [e2] at h1; cases h1
    exact h3 (R.badCup a z)
theorem Fr.repS.w {g : Gb} {c : Fr} {w : List D} {H : Hp} {d : D} {v : V} {s : Bool} (R : Rel g c w H) (h : c.repS s g H d v) : c.repS false g H d v := by
  cases s with
  | true => exact Fr.rep.s R h false
  | false => exact h
theorem Rel.repS {g : Gb} {c : Fr} {w : List D} {H H' : Hp} {s : Bool} (R : Rel g c w H) (k : Keep c.cup H H') {d : D} {v : V} (h : c.repS s g H d v) : c.repS s g H' d v := by
  cases s with
  | true => exact R.rep k h
  | false => exact ⟨R.repW k h.1 h.2, h.2⟩
def Fr.repsS (s : Bool) (g : Gb) (c : Fr) (H : Hp) : List D → List V → Prop
  | [], vs => vs = []
  | d :: ds, vs => ∃ v ws, vs = v :: ws ∧ c.repS s g H d v ∧ c.repsS s g H ds ws
theorem Fr.repsS.t {g : Gb} {c : Fr} {H : Hp} : ∀ {ds : List D} {vs : List V}, c.repsS true g H ds vs → c.reps g H ds vs
  | [], _, h => h
  | d :: ds, vs, h => by
    obtain ⟨v, ws, h1, h2, h3⟩ := h
    exact ⟨v, ws, h1, h2, h3.t⟩

/-- the static part of a reading -/
structure Sg where
  g : Gb
  T : List (Addr × Str)
  cup : Option Addr
  own : List Nat
  EX : XK
def Sg.at (S : Sg) (c : Fr) (σ : L2.St) : Prop := c.σ = σ ∧ c.T = S.T ∧ c.cup = S.cup ∧ ∀ i, i ∈ c.Own.map (·.1) ↔ i ∈ S.own
def tE (S : Sg) (s : Bool) (f : Env → M D) : TE := fun σ H Q => ∃ c w, S.at c σ ∧ Rel S.g c w H ∧ Wp S.g c S.EX (f c.env) (c.repS s S.g) w H Q
def tEs (S : Sg) (s : Bool) (f : Env → M (List D)) : TA := fun σ H Q => ∃ c w, S.at c σ ∧ Rel S.g c w H ∧ Wp S.g c S.EX (f c.env) (c.repsS s S.g) w H Q
def tT (S : Sg) (f : Env → M Bool) : TT := fun σ H Q => ∃ c w, S.at c σ ∧ Rel S.g c w H ∧ Wp S.g c S.EX (f c.env) (fun _ a b => a = b) w H Q

theorem Wp.mono {α β : Type} {g : Gb} {c : Fr} {EX : XK} {w : List D} {H : Hp} {m : M α} {r : Hp → α → β → Prop} {Q Q' : β → Hp → Prop} (h : Wp g c EX m r w H Q) (i : ∀ b H', Q b H' → Q' b H') : Wp g c EX m r w H Q' := by
  unfold Wp at h ⊢
  cases e : m w with
  | ok a w1 => rw [e] at h; exact fun H1 b R k q => i _ _ (h H1 b R k q)
  | ex k w1 => rw [e] at h; exact h
  | no => rw [e] at h; exact h
theorem Wp.rel {α β : Type} {g : Gb} {c : Fr} {EX : XK} {w : List D} {H : Hp} {m : M α} {r r' : Hp → α → β → Prop} {Q : β → Hp → Prop} (h : Wp g c EX m r w H Q) (i : ∀ H' w' a b, Rel g c w' H' → r' H' a b → r H' a b) : Wp g c EX m r' w H Q := by
  unfold Wp at h ⊢
  cases e : m w with
  | ok a w1 => rw [e] at h; exact fun H1 b R k q => h H1 b R k (i _ _ _ _ R q)
  | ex k w1 => rw [e] at h; exact h
  | no => rw [e] at h; exact h

section
variable {X : Cx} {S : Sg}
theorem se_weak {x : Expr} {f : Env → M D} (h : PE X x (tE S true f)) : PE X x (tE S false f) :=
  PE.weak h fun σ H Q ⟨c, w, a, R, q⟩ => ⟨c, w, a, R, q.rel fun _ _ _ _ R r => Fr.rep.s R r false⟩

/-! ### names, constants -/
theorem se_var {i : Nat} {x : Str} {pos : Pos} {s : Bool} (hN : X.N[i]? = some x) (hv : Vis X.env.scope x) (hd : (x == ("__debug__" : Str)) = false) (hcd : (x == ("__classdict__" : Str)) = false) (ho : s = true → i ∉ S.own) :
    PE X (.Name x pos) (tE S s fun env => getV env i) := by
  refine PE.weak (pe_var hN hv hd hcd) fun σ H Q h => ?_
  obtain ⟨c, w, ⟨rfl, hT, hc, hO⟩, R, q⟩ := h
  have q : Wp S.g c S.EX (match c.env[i]? with | some (some d) => M.pure d | _ => M.no) (c.repS s S.g) w H Q := q
  split at q
  · rename_i d e
    obtain ⟨v, h1, h2⟩ := R.val i d e
    refine ⟨v, h1, q.pure R ?_⟩
    rcases h2 with ⟨a, h3, h4, ds, vs, h5, h6, h7⟩ | ⟨h3, h4⟩
    · cases s with
      | true => exact absurd ((hO i).mp (List.mem_map.mpr ⟨_, h3, rfl⟩)) (ho rfl)
      | false =>
        subst h5
        refine ⟨⟨a, vs, h4, h6, h7⟩, fun b es _ e2 z => ?_⟩
        rw [h4] at e2; cases e2
        exact (R.new _ h3).2 (R.cupB a z)
    · exact Fr.rep.s R h4 s
  · exact q.elim
/-- a value that needs no heap -/
def flatD : D → V → Prop
  | .non, v => v = .non
  | .bl b, v => v = .bl b
  | .int i, v => v = .int i
  | .str s, v => v = .str s
  | _, _ => False
theorem flatD.rep {g : Gb} {c : Fr} {w : List D} {H : Hp} {d : D} {v : V} (R : Rel g c w H) (s : Bool) (h : flatD d v) : c.repS s g H d v := by
  refine Fr.rep.s R ?_ s
  cases d with
  | non => exact h
  | bl => exact h
  | int => exact h
  | str => exact h
  | _ => exact h.elim
theorem se_con {x : Expr} {d : D} {v : V} {s : Bool} (h : PE X x (tC v)) (hf : flatD d v) : PE X x (tE S s fun _ => M.pure d) :=
  PE.weak h fun σ H Q ⟨c, w, a, R, q⟩ => q.pure R (hf.rep R s)

/-! ### results that need no heap -/
theorem fin_flat {g : Gb} {c : Fr} {EX : XK} {w : List D} {H : Hp} {Q : VK} {d : D} {v : V} {s : Bool} (R : Rel g c w H) (q : Wp g c EX (M.pure d) (c.repS s g) w H Q) (hf : flatD d v) : Q v H := q.pure R (hf.rep R s)
/-- a new tuple, a new list -/
theorem fin_tup {g : Gb} {c : Fr} {EX : XK} {w : List D} {H : Hp} {Q : VK} {ds : List D} {vs : List V} {s : Bool} (R : Rel g c w H) (q : Wp g c EX (M.pure (.tup ds)) (c.repS s g) w H Q) (hr : c.reps g H ds vs) {p : Addr} (hp : H p = none) : Q (.ref p) (upd H p (.tup vs)) :=
  q.pureN (R.add hp) (Keep.new hp) (Fr.rep.s (d := .tup ds) (R.add hp) (show Rep _ _ _ _ (.tup ds) _ from ⟨p, vs, rfl, .inl ⟨upd_same, R.fresh hp⟩, R.reps (Keep.new hp) hr⟩) s)
theorem fin_lst {g : Gb} {c : Fr} {EX : XK} {w : List D} {H : Hp} {Q : VK} {ds : List D} {vs : List V} {s : Bool} (R : Rel g c w H) (q : Wp g c EX (M.pure (.lst ds)) (c.repS s g) w H Q) (hr : c.reps g H ds vs) {p : Addr} (hp : H p = none) : Q (.ref p) (upd H p (.lst vs)) :=
  q.pureN (R.add hp) (Keep.new hp) (Fr.rep.s (d := .lst ds) (R.add hp) (show Rep _ _ _ _ (.lst ds) _ from ⟨p, vs, rfl, upd_same, R.fresh hp, R.reps (Keep.new hp) hr⟩) s)

/-! ### operators by values -/
def opOf : BOp → Operator
  | .add => .Add | .sub => .Sub | .mul => .Mult | .fdiv => .FloorDiv | .mod => .Mod | .pow => .Pow
/-- what an operation on values asks -/
def rBin (S : Sg) (s : Bool) (o : BOp) : R2 := fun x y H Q => ∃ c w dx dy dz, Rel S.g c w H ∧ c.repS false S.g H dx x ∧ c.repS false S.g H dy y ∧ binD o dx dy = some dz ∧ Wp S.g c S.EX (M.pure dz) (c.repS s S.g) w H Q
def COpd (j : Int) : Prop := j ≠ 0 ∧ j.natAbs.log2 < 9000
theorem op_fdivG : OpR X (binaryOp .FloorDiv) (rI (fun _ j => j ≠ 0 ∧ j.natAbs.log2 < 9000) fun i j => .int (i.fdiv j)) := opI fun i j _ _ _ _ _ hc q => floordiv_int hc.1 q (.inl (PyProof.noPylong_of_log2 hc.2))
theorem mulOk_ok {i j : Int} (h : mulOk i j = true) : IntMulOk i j := by
  have h := of_decide_eq_true h
  have b : ∀ x : Int, Builtin.Int.intBits x ≤ x.natAbs.log2 + 1 := fun x => by
    unfold Builtin.Int.intBits
    split <;> omega
  have h1 := b i
  have h2 := b j
  have e : bitsLine = 134217728 := by decide
  unfold IntMulOk
  intro z
  rw [Bool.and_eq_true] at z
  have z2 := z.2
  unfold Builtin.Int.intTooBig at z2
  have z3 := of_decide_eq_true z2
  rw [e] at z3
  omega
theorem op_mulG : OpR X (binaryOp .Mult) (rI (fun i j => mulOk i j = true) fun i j => .int (i * j)) := opI fun _ _ _ _ _ _ _ hc q => mul_int q (mulOk_ok hc)
theorem line_eq : line = sizeLine := by rw [sizeLine_eq]; rfl
theorem small_iff {i : Int} (h : small i = true) : -(2 ^ 62) ≤ i ∧ i < 2 ^ 62 := by
  unfold small at h
  rw [Bool.and_eq_true] at h
  exact ⟨of_decide_eq_true h.1, of_decide_eq_true h.2⟩

section
variable {X : Cx} {S : Sg} {s : Bool} {c : Fr} {w : List D} {H : Hp} {Q : VK} {o : BOp} {x y : V} {dx dy dz : D}
theorem repS_int {i : Int} (h : c.repS false S.g H (.int i) x) : x = .int i := h.1
theorem repS_str {i : Str} (h : c.repS false S.g H (.str i) x) : x = .str i := h.1
theorem repS_bl {i : Bool} (h : c.repS false S.g H (.bl i) x) : x = .bl i := h.1
theorem repS_non (h : c.repS false S.g H .non x) : x = .non := h.1
theorem repS_fn {k : Nat} (h : c.repS false S.g H (.fn k) x) : x = .ref (S.g.fa k) := h.1
theorem repS_cup (h : c.repS false S.g H .cup x) : ∃ a, c.cup = some a ∧ x = .ref a := h.1
theorem repS_tup {ds : List D} (h : c.repS false S.g H (.tup ds) x) : ∃ a vs, x = .ref a ∧ TupAt S.g.K c.bad H a vs ∧ c.reps S.g H ds vs := h.1
theorem repS_lst {ds : List D} (h : c.repS false S.g H (.lst ds) x) : ∃ a vs, x = .ref a ∧ H a = some (.lst vs) ∧ c.reps S.g H ds vs := h.1
theorem opd (hK : X.K = S.g.K) : OpR X (binaryOp (opOf o)) (rBin S s o) := by
  intro pins sh σ H x y v u Q I rx ry h
  obtain ⟨c, w, dx, dy, dz, R, hx, hy, e, q⟩ := h
  unfold binD at e
  split at e
  · -- int + int
    cases repS_int hx; cases repS_int hy; cases e
    exact op_add pins sh σ H _ _ v u Q I rx ry ⟨_, _, rfl, rfl, fin_flat R q rfl⟩
  · -- str + str
    cases repS_str hx; cases repS_str hy
    split at e
    · rename_i hz
      cases e
      exact op_add_str pins sh σ H _ _ v u Q I rx ry ⟨_, _, rfl, rfl, by rw [← line_eq]; exact hz, fin_flat R q rfl⟩
    · cases e
  · -- tup + tup
    obtain ⟨a, xs, rfl, h1, h2⟩ := repS_tup hx
    obtain ⟨b, ys, rfl, h3, h4⟩ := repS_tup hy
    split at e
    · rename_i ds es hz
      cases e
      refine op_catA pins sh σ H _ _ v u Q I rx ry ⟨a, b, xs, ys, rfl, rfl, by rw [hK]; exact h1.sq, by rw [hK]; exact h3.sq, by rw [← h2.length, ← h4.length, ← line_eq]; exact hz, fun z => ?_, fun _ z => ?_, fun _ _ p hp => ?_⟩
      · subst z
        have e0 : ds = [] := List.eq_nil_of_length_eq_zero h2.length
        subst e0
        exact q.pure R (Fr.rep.s (d := .tup es) R (show Rep _ _ _ _ (.tup es) _ from ⟨b, ys, rfl, h3, h4⟩) s)
      · subst z
        have e0 : es = [] := List.eq_nil_of_length_eq_zero h4.length
        subst e0
        rw [List.append_nil] at q
        exact q.pure R (Fr.rep.s (d := .tup ds) R (show Rep _ _ _ _ (.tup ds) _ from ⟨a, xs, rfl, h1, h2⟩) s)
      · exact fin_tup R q (h2.append h4) hp
    · cases e
  · -- lst + lst
    obtain ⟨a, xs, rfl, h1, h2⟩ := repS_lst hx
    obtain ⟨b, ys, rfl, h3, h4⟩ := repS_lst hy
    split at e
    · rename_i ds es hz
      cases e
      exact op_cat pins sh σ H _ _ v u Q I rx ry ⟨a, b, xs, ys, rfl, rfl, h1, h3, by rw [← h2.length, ← h4.length, ← line_eq]; exact hz, fun p hp => fin_lst R q (h2.append h4) hp⟩
    · cases e
  · -- int - int
    cases repS_int hx; cases repS_int hy; cases e
    exact op_sub pins sh σ H _ _ v u Q I rx ry ⟨_, _, rfl, rfl, fin_flat R q rfl⟩
  · -- int * int
    cases repS_int hx; cases repS_int hy
    split at e
    · rename_i hz
      cases e
      exact op_mulG pins sh σ H _ _ v u Q I rx ry ⟨_, _, rfl, rfl, hz, fin_flat R q rfl⟩
    · cases e
  · -- tup * int
    obtain ⟨a, xs, rfl, h1, h2⟩ := repS_tup hx
    cases repS_int hy
    split at e
    · rename_i ds k hz
      cases e
      simp only [Bool.and_eq_true, decide_eq_true_eq] at hz
      obtain ⟨⟨z1, z2⟩, z3⟩ := hz
      refine op_timesT pins sh σ H _ _ v u Q I rx ry ⟨a, k, xs, rfl, rfl, by rw [hK]; exact h1.sq, z1, z2, by rw [← h2.length]; exact z3, fun z => ?_, fun _ _ p hp => fin_tup R q (h2.rep _) hp⟩
      have e0 : reps k.toNat ds = ds := by
        rcases z with z | z
        · subst z
          have e0 : ds = [] := List.eq_nil_of_length_eq_zero h2.length
          subst e0
          unfold reps
          simp
        · subst z
          show (List.replicate 1 ds).flatten = ds
          simp
      rw [e0] at q
      exact q.pure R (Fr.rep.s (d := .tup ds) R (show Rep _ _ _ _ (.tup ds) _ from ⟨a, xs, rfl, h1, h2⟩) s)
    · cases e
  · -- lst * int
    obtain ⟨a, xs, rfl, h1, h2⟩ := repS_lst hx
    cases repS_int hy
    split at e
    · rename_i ds k hz
      cases e
      rw [Bool.and_eq_true] at hz
      obtain ⟨z1, z2⟩ := hz
      obtain ⟨z3, z4⟩ := small_iff z1
      have z5 := of_decide_eq_true z2
      exact op_rep pins sh σ H _ _ v u Q I rx ry ⟨a, k, xs, rfl, rfl, h1, by omega, by omega, by rw [← h2.length, ← line_eq]; exact z5, fun p hp => fin_lst R q (h2.rep _) hp⟩
    · cases e
  · -- //
    cases repS_int hx; cases repS_int hy
    split at e
    · rename_i hz
      cases e
      unfold divOk at hz
      rw [Bool.and_eq_true] at hz
      exact op_fdivG pins sh σ H _ _ v u Q I rx ry ⟨_, _, rfl, rfl, ⟨of_decide_eq_true hz.1, of_decide_eq_true hz.2⟩, fin_flat R q rfl⟩
    · cases e
  · -- %
    cases repS_int hx; cases repS_int hy
    split at e
    · rename_i hz
      cases e
      exact op_modN pins sh σ H _ _ v u Q I rx ry ⟨_, _, rfl, rfl, hz, fin_flat R q rfl⟩
    · cases e
  · -- **
    cases repS_int hx; cases repS_int hy
    split at e
    · rename_i hz
      cases e
      unfold powOk at hz
      simp only [Bool.and_eq_true, decide_eq_true_eq] at hz
      exact op_pow pins sh σ H _ _ v u Q I rx ry ⟨_, _, rfl, rfl, ⟨hz.1.1, hz.1.2, hz.2⟩, fin_flat R q rfl⟩
    · cases e
  · cases e
variable {a b : Expr} {fa fb : Env → M D} {pos : Pos}
/-- two operands -/
theorem two {α β : Type} {f : D → D → M α} {r : Hp → α → β → Prop} {Q : β → Hp → Prop} {σ : L2.St} (ha : S.at c σ) (R : Rel S.g c w H)
    (h : Wp S.g c S.EX (M.bind (fa c.env) fun x => M.bind (fb c.env) fun y => f x y) r w H Q) :
    tE S false fa σ H fun x H1 => tE S false fb σ H1 fun y H2 => ∃ w dx dy, Rel S.g c w H2 ∧ c.repS false S.g H2 dx x ∧ c.repS false S.g H2 dy y ∧ Wp S.g c S.EX (f dx dy) r w H2 Q := by
  refine ⟨c, w, ha, R, h.bind.mono fun x H1 ⟨dx, w1, R1, k1, q1, h1, _⟩ => ?_⟩
  exact ⟨c, w1, ha, R1, h1.bind.mono fun y H2 ⟨dy, w2, R2, k2, q2, h2, _⟩ => ⟨w2, dx, dy, R2, R1.repS k2 q1, q2, h2⟩⟩
theorem one {α β : Type} {f : D → M α} {r : Hp → α → β → Prop} {Q : β → Hp → Prop} {σ : L2.St} {s : Bool} (ha : S.at c σ) (R : Rel S.g c w H)
    (h : Wp S.g c S.EX (M.bind (fa c.env) fun x => f x) r w H Q) :
    tE S s fa σ H fun x H1 => ∃ w dx, Rel S.g c w H1 ∧ Keep c.cup H H1 ∧ c.repS s S.g H1 dx x ∧ Wp S.g c S.EX (f dx) r w H1 Q :=
  ⟨c, w, ha, R, h.bind.mono fun x H1 ⟨dx, w1, R1, k1, q1, h1, _⟩ => ⟨w1, dx, R1, k1, q1, h1⟩⟩
/-- t may be weakened at its end -/
theorem tE_mono {f : Env → M D} {σ : L2.St} {Q' : VK} (h : tE S s f σ H Q) (i : ∀ v H', Q v H' → Q' v H') : tE S s f σ H Q' := by
  obtain ⟨c, w, ha, R, q⟩ := h
  exact ⟨c, w, ha, R, q.mono i⟩
theorem se_bin (hK : X.K = S.g.K) (ha : PE X a (tE S false fa)) (hb : PE X b (tE S false fb)) : PE X (.BinOp a (opOf o) b pos) (tE S s fun env => M.bind (fa env) fun x => M.bind (fb env) fun y => liftO (binD o x y)) :=
  PE.weak (pe_op (opd (o := o) hK) ha hb) fun σ H Q ⟨c, w, at_, R, q⟩ => tE_mono (two at_ R q) fun x H1 h1 => tE_mono h1 fun y H2 ⟨w, dx, dy, R2, h3, h4, q2⟩ => by
    obtain ⟨dz, e, h⟩ := q2.lift
    exact ⟨c, w, dx, dy, dz, R2, h3, h4, e, h⟩
end
end
end VI
end
section
set_option maxRecDepth 100000
namespace VI
open PySem PySem.Spec PyProof.Rows L2
section
variable {X : Cx} {S : Sg} {s : Bool} {c : Fr} {w : List D} {H : Hp} {Q : VK}
/-! ### data -/
mutual
theorem Rep.dp {g : Gb} {cup : Option Addr} {bad : Addr → Prop} {H : Hp} : ∀ {d : D} {v : V} {p : PyData}, Rep g cup bad H d v → toPy d = some p → Dp g.K H v p
  | .non, _, _, h, e => by cases h; cases e; exact .non
  | .bl _, _, _, h, e => by cases h; cases e; exact .bl _
  | .int _, _, _, h, e => by cases h; cases e; exact .int _
  | .str _, _, _, h, e => by cases h; cases e; exact .str _
  | .fn _, _, _, _, e => by cases e
  | .cup, _, _, _, e => by cases e
  | .tup ds, v, p, h, e => by
    obtain ⟨a, vs, rfl, h2, h3⟩ := h
    simp only [toPy, Option.map_eq_some_iff] at e
    obtain ⟨ps, e1, rfl⟩ := e
    exact .tup h2.sq (Reps.dp h3 e1)
  | .lst ds, v, p, h, e => by
    obtain ⟨a, vs, rfl, h2, _, h3⟩ := h
    simp only [toPy, Option.map_eq_some_iff] at e
    obtain ⟨ps, e1, rfl⟩ := e
    exact .lst (SqL.of h2) (Reps.dp h3 e1)
theorem Reps.dp {g : Gb} {cup : Option Addr} {bad : Addr → Prop} {H : Hp} : ∀ {ds : List D} {vs : List V} {ps : List PyData}, Reps g cup bad H ds vs → toPys ds = some ps → DpAll g.K H vs ps
  | [], _, _, h, e => by cases h; cases e; exact .nil
  | d :: ds, vs, ps, h, e => by
    obtain ⟨v, ws, rfl, h2, h3⟩ := h
    simp only [toPys] at e
    split at e
    · rename_i p ps' e1 e2
      cases e
      exact .cons (Rep.dp h2 e1) (Reps.dp h3 e2)
    · cases e
end
theorem repS_dp {d : D} {x : V} {p : PyData} (h : c.repS false S.g H d x) (e : toPy d = some p) : Dp S.g.K H x p := by
  cases d with
  | lst ds =>
    obtain ⟨a, vs, rfl, h2, h3⟩ := repS_lst h
    simp only [toPy, Option.map_eq_some_iff] at e
    obtain ⟨ps, e1, rfl⟩ := e
    exact .lst (SqL.of h2) (Reps.dp h3 e1)
  | non => exact Rep.dp (cup := c.cup) (bad := c.bad) (d := .non) h.1 e
  | bl b => exact Rep.dp (cup := c.cup) (bad := c.bad) (d := .bl b) h.1 e
  | int b => exact Rep.dp (cup := c.cup) (bad := c.bad) (d := .int b) h.1 e
  | str b => exact Rep.dp (cup := c.cup) (bad := c.bad) (d := .str b) h.1 e
  | tup b => exact Rep.dp (d := .tup b) h.1 e
  | fn b => cases e
  | cup => cases e
  | exn b => cases e

/-! ### comparisons -/
def cOf : COp → CmpOp
  | .eq => .Eq | .ne => .NotEq | .lt => .Lt | .le => .LtE | .gt => .Gt | .ge => .GtE | .inn => .In | .notin => .NotIn | .is => .Is | .isnot => .IsNot
def rCmp (S : Sg) (o : COp) : R2 := fun x y H Q => ∃ c w dx dy b, Rel S.g c w H ∧ c.repS false S.g H dx x ∧ c.repS false S.g H dy y ∧ cmpD o dx dy = some b ∧ Q (.bl b) H
theorem room65 {A : Around} {d : PyData} {ds : List PyData} (sd : SeqAt.shaped d = true) (hu : A.units + 65 < cLine) : A.units + 1 + min (PyData.depthAll ds) d.depth < cLine := by
  have h1 := SeqAt.depth_of_shaped sd
  have h2 : min (PyData.depthAll ds) d.depth ≤ d.depth := Nat.min_le_right _ _
  omega
theorem inD_some {x : D} {ys : List D} {b : Bool} (h : inD x ys = some b) : ∃ d ds, toPy x = some d ∧ toPys ys = some ds ∧ SeqAt.shaped d = true ∧ SeqAt.shaped (.list ds) = true ∧ b = ds.any fun z => PyData.eqv z d := by
  unfold inD at h
  split at h
  · rename_i d ds e1 e2
    split at h
    · rename_i q
      rw [Bool.and_eq_true] at q
      exact ⟨d, ds, e1, e2, q.1, q.2, (Option.some.inj h).symm⟩
    · cases h
  · cases h
theorem op_inG (hK : X.K = S.g.K) (hu : X.A.units + 65 < cLine) : OpR X (compareOp .In) (fun x y H Q => ∃ c w dx dy ys b, Rel S.g c w H ∧ c.repS false S.g H dx x ∧ c.repS false S.g H dy y ∧ isSeq dy = some ys ∧ inD dx ys = some b ∧ Q (.bl b) H) := by
  intro pins sh σ H x y v u Q I rx ry h
  obtain ⟨c, w, dx, dy, ys, b, R, hx, hy, e1, e2, q⟩ := h
  obtain ⟨d, ds, h1, h2, h3, h4, rfl⟩ := inD_some e2
  obtain ⟨as, r1⟩ := Dp.reads I d x v (by rw [hK]; exact repS_dp hx h1) rx
  cases dy with
  | tup zs =>
    cases e1
    obtain ⟨bs, r2⟩ := Dp.reads I (.tuple ds) y u (by rw [hK]; exact repS_dp hy (by simp only [toPy, h2]; rfl)) ry
    exact SeqAt.in_tuple_reads r2 r1 (SeqAt.canLay_of_shaped h4) (SeqAt.canLay_of_shaped h3) (room65 h3 hu) ⟨.bl _, H, I, rfl, q⟩
  | lst zs =>
    cases e1
    obtain ⟨bs, r2⟩ := Dp.reads I (.list ds) y u (by rw [hK]; exact repS_dp hy (by simp only [toPy, h2]; rfl)) ry
    exact SeqAt.in_list_reads r2 r1 (SeqAt.canLay_of_shaped h4) (SeqAt.canLay_of_shaped h3) (room65 h3 hu) ⟨.bl _, H, I, rfl, q⟩
  | _ => cases e1
theorem op_notInG (hK : X.K = S.g.K) (hu : X.A.units + 65 < cLine) : OpR X (compareOp .NotIn) (fun x y H Q => ∃ c w dx dy ys b, Rel S.g c w H ∧ c.repS false S.g H dx x ∧ c.repS false S.g H dy y ∧ isSeq dy = some ys ∧ inD dx ys = some b ∧ Q (.bl (!b)) H) := by
  intro pins sh σ H x y v u Q I rx ry h
  obtain ⟨c, w, dx, dy, ys, b, R, hx, hy, e1, e2, q⟩ := h
  obtain ⟨d, ds, h1, h2, h3, h4, rfl⟩ := inD_some e2
  obtain ⟨as, r1⟩ := Dp.reads I d x v (by rw [hK]; exact repS_dp hx h1) rx
  cases dy with
  | tup zs =>
    cases e1
    obtain ⟨bs, r2⟩ := Dp.reads I (.tuple ds) y u (by rw [hK]; exact repS_dp hy (by simp only [toPy, h2]; rfl)) ry
    exact SeqAt.notIn_tuple_reads r2 r1 (SeqAt.canLay_of_shaped h4) (SeqAt.canLay_of_shaped h3) (room65 h3 hu) ⟨.bl _, H, I, rfl, q⟩
  | lst zs =>
    cases e1
    obtain ⟨bs, r2⟩ := Dp.reads I (.list ds) y u (by rw [hK]; exact repS_dp hy (by simp only [toPy, h2]; rfl)) ry
    exact SeqAt.notIn_list_reads r2 r1 (SeqAt.canLay_of_shaped h4) (SeqAt.canLay_of_shaped h3) (room65 h3 hu) ⟨.bl _, H, I, rfl, q⟩
  | _ => cases e1
theorem eqD_some {x y : D} {b : Bool} (h : eqD x y = some b) : ∃ d e, toPy x = some d ∧ toPy y = some e ∧ SeqAt.shaped d = true ∧ SeqAt.shaped e = true ∧ b = PyData.eqv d e := by
  unfold eqD at h
  split at h
  · rename_i d ds e1 e2
    split at h
    · rename_i q
      rw [Bool.and_eq_true] at q
      exact ⟨d, ds, e1, e2, q.1, q.2, (Option.some.inj h).symm⟩
    · cases h
  · cases h
theorem rep_non {d : D} {x : V} (h : c.repS false S.g H d x) : decide (x = .non) = isNon d := by
  cases d with
  | non => cases repS_non h; rfl
  | bl b => cases repS_bl h; rfl
  | int b => cases repS_int h; rfl
  | str b => cases repS_str h; rfl
  | fn b => cases repS_fn h; rfl
  | cup => obtain ⟨a, _, rfl⟩ := repS_cup h; rfl
  | exn k => obtain ⟨a, _, rfl⟩ := h.1; rfl
  | tup b => obtain ⟨a, vs, rfl, _⟩ := repS_tup h; rfl
  | lst b => obtain ⟨a, vs, rfl, _⟩ := repS_lst h; rfl
theorem cmpd {o : COp} (hK : X.K = S.g.K) (hu : X.A.units + 65 < cLine) : OpR X (compareOp (cOf o)) (rCmp S o) := by
  intro pins sh σ H x y v u Q I rx ry h
  obtain ⟨c, w, dx, dy, b, R, hx, hy, e, q⟩ := h
  cases o with
  | eq =>
    have e : eqD dx dy = some b := e
    obtain ⟨p, p', h1, h2, h3, h4, rfl⟩ := eqD_some e
    exact op_eqD (by omega) pins sh σ H x y v u Q I rx ry ⟨p, p', by rw [hK]; exact repS_dp hx h1, by rw [hK]; exact repS_dp hy h2, h3, h4, q⟩
  | ne =>
    have e : (eqD dx dy).map (!·) = some b := e
    obtain ⟨b', e', rfl⟩ := Option.map_eq_some_iff.mp e
    obtain ⟨p, p', h1, h2, h3, h4, rfl⟩ := eqD_some e'
    exact op_neD (by omega) pins sh σ H x y v u Q I rx ry ⟨p, p', by rw [hK]; exact repS_dp hx h1, by rw [hK]; exact repS_dp hy h2, h3, h4, q⟩
  | inn =>
    have e : ((isSeq dy).bind fun ys => inD dx ys) = some b := e
    obtain ⟨ys, e1, e2⟩ := Option.bind_eq_some_iff.mp e
    exact op_inG hK hu pins sh σ H x y v u Q I rx ry ⟨c, w, dx, dy, ys, b, R, hx, hy, e1, e2, q⟩
  | notin =>
    have e : ((isSeq dy).bind fun ys => inD dx ys).map (!·) = some b := e
    obtain ⟨b', e', rfl⟩ := Option.map_eq_some_iff.mp e
    obtain ⟨ys, e1, e2⟩ := Option.bind_eq_some_iff.mp e'
    exact op_notInG hK hu pins sh σ H x y v u Q I rx ry ⟨c, w, dx, dy, ys, b', R, hx, hy, e1, e2, q⟩
  | lt =>
    unfold cmpD at e
    split at e <;> first | cases e | skip
    all_goals first | contradiction | skip
    cases repS_int hx; cases repS_int hy
    exact op_lt pins sh σ H _ _ v u Q I rx ry ⟨_, _, rfl, rfl, q⟩
  | le =>
    unfold cmpD at e
    split at e <;> first | cases e | skip
    all_goals first | contradiction | skip
    cases repS_int hx; cases repS_int hy
    exact op_le pins sh σ H _ _ v u Q I rx ry ⟨_, _, rfl, rfl, q⟩
  | gt =>
    unfold cmpD at e
    split at e <;> first | cases e | skip
    all_goals first | contradiction | skip
    cases repS_int hx; cases repS_int hy
    exact op_gt pins sh σ H _ _ v u Q I rx ry ⟨_, _, rfl, rfl, q⟩
  | ge =>
    unfold cmpD at e
    split at e <;> first | cases e | skip
    all_goals first | contradiction | skip
    cases repS_int hx; cases repS_int hy
    exact op_ge pins sh σ H _ _ v u Q I rx ry ⟨_, _, rfl, rfl, q⟩
  | is =>
    cases dy with
    | non =>
      cases repS_non hy
      have e := Option.some.inj e
      refine op_isN pins sh σ H _ _ v u Q I rx ry ⟨rfl, ?_⟩
      rw [rep_non hx, e]
      exact q
    | _ => cases e
  | isnot =>
    cases dy with
    | non =>
      cases repS_non hy
      have e := Option.some.inj e
      refine op_notN pins sh σ H _ _ v u Q I rx ry ⟨rfl, ?_⟩
      rw [rep_non hx, e]
      exact q
    | _ => cases e
end
end VI
end
section
set_option maxRecDepth 100000
namespace VI
open PySem PySem.Spec PyProof.Rows L2

theorem M.bind_assoc {α β γ : Type} (x : M α) (f : α → M β) (g : β → M γ) : M.bind (M.bind x f) g = M.bind x fun a => M.bind (f a) g := by
  funext w
  unfold M.bind
  cases x w <;> rfl
theorem M.bind_pure {α β : Type} (a : α) (f : α → M β) : M.bind (M.pure a) f = f a := rfl
theorem M.bind_no {α β : Type} (f : α → M β) : M.bind (M.no : M α) f = M.no := rfl
theorem M.bind_ite {α β : Type} (k : Bool) (x y : M α) (f : α → M β) : M.bind (if k = true then x else y) f = if k = true then M.bind x f else M.bind y f := by cases k <;> rfl
/-- an expression as a test -/
def tst (f : Env → M D) : Env → M Bool := fun env => M.bind (f env) truth
theorem truth_bl (b : Bool) : truth (.bl b) = M.pure b := rfl

section
variable {X : Cx} {S : Sg} {s : Bool} {a b c' : Expr} {fa fb fc : Env → M D} {pos : Pos}
def eCmp (o : COp) (fa fb : Env → M D) : Env → M D := fun env => M.bind (fa env) fun x => M.bind (fb env) fun y => M.bind (liftO (cmpD o x y)) fun b => M.pure (.bl b)
theorem se_cmp {o : COp} (hK : X.K = S.g.K) (hu : X.A.units + 65 < cLine) (ha : PE X a (tE S false fa)) (hb : PE X b (tE S false fb)) (hm : behindInMarks (cOf o) b = false) : PE X (.Compare a [cOf o] [b] pos) (tE S s (eCmp o fa fb)) :=
  PE.weak (pe_cmpR (cmpd (o := o) hK hu) ha hb hm) fun σ H Q ⟨c, w, at_, R, q⟩ => tE_mono (two at_ R q) fun x H1 h1 => tE_mono h1 fun y H2 ⟨w, dx, dy, R2, h3, h4, q2⟩ => by
    obtain ⟨k, e, h⟩ := q2.liftB
    exact ⟨c, w, dx, dy, k, R2, h3, h4, e, fin_flat R2 h rfl⟩
theorem st_cmp {o : COp} (hK : X.K = S.g.K) (hu : X.A.units + 65 < cLine) (ha : PE X a (tE S false fa)) (hb : PE X b (tE S false fb)) (hm : behindInMarks (cOf o) b = false) : PT X (.Compare a [cOf o] [b] pos) (tT S (tst (eCmp o fa fb))) :=
  PT.weak (pt_cmpR (cmpd (o := o) hK hu) ha hb hm) fun σ H Q ⟨c, w, at_, R, q⟩ => by
    have q : Wp S.g c S.EX (M.bind (fa c.env) fun x => M.bind (fb c.env) fun y => liftO (cmpD o x y)) (fun _ a b => a = b) w H Q := by
      have e : tst (eCmp o fa fb) c.env = (M.bind (fa c.env) fun x => M.bind (fb c.env) fun y => liftO (cmpD o x y)) := by
        unfold tst eCmp
        rw [M.bind_assoc]
        congr 1; funext x
        rw [M.bind_assoc]
        congr 1; funext y
        rw [M.bind_assoc]
        cases cmpD o x y <;> rfl
      rw [← e]; exact q
    exact tE_mono (two at_ R q) fun x H1 h1 => tE_mono h1 fun y H2 ⟨w, dx, dy, R2, h3, h4, q2⟩ => by
      obtain ⟨k, e, h⟩ := q2.lift
      exact ⟨c, w, dx, dy, k, R2, h3, h4, e, k, rfl, h H2 k R2 Keep.refl rfl⟩
def eChain (o1 o2 : COp) (fa fb fc : Env → M D) : Env → M D := fun env => M.bind (fa env) fun x => M.bind (fb env) fun y => M.bind (liftO (cmpD o1 x y)) fun k =>
      if k then M.bind (fc env) fun z => M.bind (liftO (cmpD o2 y z)) fun b => M.pure (.bl b) else M.pure (.bl false)
theorem se_chain {o1 o2 : COp} (hK : X.K = S.g.K) (hu : X.A.units + 65 < cLine) (ha : PE X a (tE S false fa)) (hb : PE X b (tE S false fb)) (hc : PE X c' (tE S false fc)) (hm : lastMarks [cOf o1, cOf o2] [b, c'] = false) :
    PE X (.Compare a [cOf o1, cOf o2] [b, c'] pos) (tE S s (eChain o1 o2 fa fb fc)) :=
  PE.weak (pe_chain (cmpd (o := o1) hK hu) (cmpd (o := o2) hK hu) ha hb hc hm) fun σ H Q ⟨c, w, at_, R, q⟩ => tE_mono (two at_ R q) fun x H1 h1 => tE_mono h1 fun y H2 ⟨w, dx, dy, R2, h3, h4, q2⟩ => by
    obtain ⟨k, e, h⟩ := q2.liftB
    refine ⟨c, w, dx, dy, k, R2, h3, h4, e, k, rfl, ?_⟩
    cases k with
    | false => exact iteF (fin_flat R2 h rfl)
    | true =>
      refine iteT (tE_mono (one at_ R2 h) fun z H3 ⟨w3, dz, R3, k3, h5, q3⟩ => ?_)
      obtain ⟨k2, e2, h2⟩ := q3.liftB
      exact ⟨c, w3, dy, dz, k2, R3, R2.repS k3 h4, h5, e2, fin_flat R3 h2 rfl⟩
theorem st_chain {o1 o2 : COp} (hK : X.K = S.g.K) (hu : X.A.units + 65 < cLine) (ha : PE X a (tE S false fa)) (hb : PE X b (tE S false fb)) (hc : PE X c' (tE S false fc)) (hm : lastMarks [cOf o1, cOf o2] [b, c'] = false) :
    PT X (.Compare a [cOf o1, cOf o2] [b, c'] pos) (tT S (tst (eChain o1 o2 fa fb fc))) :=
  PT.weak (pt_chain (cmpd (o := o1) hK hu) (cmpd (o := o2) hK hu) ha hb hc hm) fun σ H Q ⟨c, w, at_, R, q⟩ => by
    have q : Wp S.g c S.EX (M.bind (fa c.env) fun x => M.bind (fb c.env) fun y => M.bind (liftO (cmpD o1 x y)) fun k => if k = true then M.bind (fc c.env) fun z => liftO (cmpD o2 y z) else M.pure false) (fun _ a b => a = b) w H Q := by
      have e : tst (eChain o1 o2 fa fb fc) c.env = (M.bind (fa c.env) fun x => M.bind (fb c.env) fun y => M.bind (liftO (cmpD o1 x y)) fun k => if k = true then M.bind (fc c.env) fun z => liftO (cmpD o2 y z) else M.pure false) := by
        unfold tst eChain
        rw [M.bind_assoc]
        congr 1; funext x
        rw [M.bind_assoc]
        congr 1; funext y
        rw [M.bind_assoc]
        congr 1; funext k
        cases k with
        | false => rfl
        | true =>
          simp only [if_true]
          rw [M.bind_assoc]
          congr 1; funext z
          rw [M.bind_assoc]
          cases cmpD o2 y z <;> rfl
      rw [← e]; exact q
    exact tE_mono (two at_ R q) fun x H1 h1 => tE_mono h1 fun y H2 ⟨w, dx, dy, R2, h3, h4, q2⟩ => by
      obtain ⟨k, e, h⟩ := q2.liftB
      refine ⟨c, w, dx, dy, k, R2, h3, h4, e, k, rfl, ?_⟩
      cases k with
      | false => exact iteF ⟨false, rfl, h H2 false R2 Keep.refl rfl⟩
      | true =>
        refine iteT (tE_mono (one at_ R2 h) fun z H3 ⟨w3, dz, R3, k3, h5, q3⟩ => ?_)
        obtain ⟨k2, e2, h2⟩ := q3.lift
        exact ⟨c, w3, dy, dz, k2, R3, R2.repS k3 h4, h5, e2, k2, rfl, h2 H3 k2 R3 Keep.refl rfl⟩

/-! ### truth, and, or, not, if-else -/
theorem truth_some {d : D} {α β : Type} {c : Fr} {w : List D} {H : Hp} {f : Bool → M α} {r : Hp → α → β → Prop} {Q : β → Hp → Prop} (h : Wp S.g c S.EX (M.bind (truth d) f) r w H Q) : ∃ k, d = .bl k ∧ Wp S.g c S.EX (f k) r w H Q := by
  cases d with
  | bl k => exact ⟨k, rfl, h⟩
  | _ => exact h.elim
theorem tT_mono {f : Env → M Bool} {σ : L2.St} {H : Hp} {Q Q' : Bool → Hp → Prop} (h : tT S f σ H Q) (i : ∀ v H', Q v H' → Q' v H') : tT S f σ H Q' := by
  obtain ⟨c, w, ha, R, q⟩ := h
  exact ⟨c, w, ha, R, q.mono i⟩
/-- a test ahead -/
theorem oneT {α β : Type} {c : Fr} {w : List D} {H : Hp} {ft : Env → M Bool} {f : Bool → M α} {r : Hp → α → β → Prop} {Q : β → Hp → Prop} {σ : L2.St} (ha : S.at c σ) (R : Rel S.g c w H)
    (h : Wp S.g c S.EX (M.bind (ft c.env) fun x => f x) r w H Q) : tT S ft σ H fun k H1 => ∃ w, Rel S.g c w H1 ∧ Keep c.cup H H1 ∧ Wp S.g c S.EX (f k) r w H1 Q :=
  ⟨c, w, ha, R, h.bind.mono fun x H1 ⟨dx, w1, R1, k1, q1, h1, _⟩ => ⟨w1, R1, k1, by rw [← q1]; exact h1⟩⟩
/-- a value that is a test by its truth -/
theorem st_val (h : PE X a (tE S false fa)) (he : ∀ whole, isTrue a X.env whole = (do let v ← whole; standAt a.pos; holding [v] (truthy v))) : PT X a (tT S (tst fa)) :=
  PT.weak (pt_val h he) fun σ H Q ⟨c, w, at_, R, q⟩ => by
    refine tE_mono (one (f := truth) at_ R q) fun x H1 ⟨w1, dx, R1, k1, h1, q1⟩ => ?_
    cases dx with
    | bl k => exact ⟨k, repS_bl h1, q1.pure R1 rfl⟩
    | _ => exact q1.elim
def eAnd (fa fb : Env → M D) : Env → M D := fun env => M.bind (fa env) fun x => M.bind (truth x) fun k => if k then M.bind (fb env) fun y => M.bind (truth y) fun k => M.pure (.bl k) else M.pure (.bl false)
def eOr (fa fb : Env → M D) : Env → M D := fun env => M.bind (fa env) fun x => M.bind (truth x) fun k => if k then M.pure (.bl true) else M.bind (fb env) fun y => M.bind (truth y) fun k => M.pure (.bl k)
def eNot (fa : Env → M D) : Env → M D := fun env => M.bind (fa env) fun x => M.bind (truth x) fun b => M.pure (.bl (!b))
def eIte (fc fa fb : Env → M D) : Env → M D := fun env => M.bind (fc env) fun x => M.bind (truth x) fun k => if k then fa env else fb env
theorem truth_pure (y : D) : (M.bind (truth y) fun k => M.bind (M.pure (D.bl k)) truth) = truth y := by
  cases y <;> rfl
theorem tst_and (env : Env) : tst (eAnd fa fb) env = M.bind (tst fa env) fun k => if k = true then tst fb env else M.pure false := by
  unfold tst eAnd
  rw [M.bind_assoc, M.bind_assoc]
  congr 1; funext x
  rw [M.bind_assoc]
  congr 1; funext k
  cases k with
  | false => rfl
  | true =>
    simp only [if_true]
    rw [M.bind_assoc]
    congr 1; funext y
    rw [M.bind_assoc, truth_pure]
theorem tst_or (env : Env) : tst (eOr fa fb) env = M.bind (tst fa env) fun k => if k = true then M.pure true else tst fb env := by
  unfold tst eOr
  rw [M.bind_assoc, M.bind_assoc]
  congr 1; funext x
  rw [M.bind_assoc]
  congr 1; funext k
  cases k with
  | true => rfl
  | false =>
    simp only [Bool.false_eq_true, if_false]
    rw [M.bind_assoc]
    congr 1; funext y
    rw [M.bind_assoc, truth_pure]
theorem tst_not (env : Env) : tst (eNot fa) env = M.bind (tst fa env) fun k => M.pure (!k) := by
  unfold tst eNot
  rw [M.bind_assoc, M.bind_assoc]
  congr 1; funext x
  cases x <;> rfl
theorem tst_ite (env : Env) : tst (eIte fc fa fb) env = M.bind (tst fc env) fun k => if k = true then tst fa env else tst fb env := by
  unfold tst eIte
  rw [M.bind_assoc, M.bind_assoc]
  congr 1; funext x
  rw [M.bind_assoc]
  congr 1; funext k
  cases k <;> rfl
theorem ite_bool {P Q : Prop} {k : Bool} (h1 : k = true → P) (h2 : k = false → Q) : if k = true then P else Q := by
  cases k with
  | true => exact iteT (h1 rfl)
  | false => exact iteF (h2 rfl)
variable {rest : List Expr}
theorem sw_and (ha : PT X a (tT S (tst fa))) (hb : PW X (.BoolOp .And (b :: rest) pos) (tT S (tst fb))) : PW X (.BoolOp .And (a :: b :: rest) pos) (tT S (tst (eAnd fa fb))) := by
  refine ⟨fun whole pins s σ H Q I h => (pw_and ha hb).run whole pins s σ H Q I ?_⟩
  obtain ⟨c, w, at_, R, q⟩ := h
  rw [tst_and] at q
  refine tT_mono (oneT at_ R q) fun k H1 ⟨w1, R1, k1, q1⟩ => ite_bool (fun e => ?_) (fun e => ?_)
  · subst e; exact ⟨c, w1, at_, R1, q1⟩
  · subst e; exact q1.pure R1 rfl
theorem sw_or (ha : PT X a (tT S (tst fa))) (hb : PW X (.BoolOp .Or (b :: rest) pos) (tT S (tst fb))) : PW X (.BoolOp .Or (a :: b :: rest) pos) (tT S (tst (eOr fa fb))) := by
  refine ⟨fun whole pins s σ H Q I h => (pw_or ha hb).run whole pins s σ H Q I ?_⟩
  obtain ⟨c, w, at_, R, q⟩ := h
  rw [tst_or] at q
  refine tT_mono (oneT at_ R q) fun k H1 ⟨w1, R1, k1, q1⟩ => ite_bool (fun e => ?_) (fun e => ?_)
  · subst e; exact q1.pure R1 rfl
  · subst e; exact ⟨c, w1, at_, R1, q1⟩
theorem st_not (ha : PT X a (tT S (tst fa))) : PT X (.UnaryOp .Not a pos) (tT S (tst (eNot fa))) :=
  PT.weak (pt_not ha) fun σ H Q ⟨c, w, at_, R, q⟩ => by
    rw [tst_not] at q
    exact tT_mono (oneT at_ R q) fun k H1 ⟨w1, R1, k1, q1⟩ => q1.pure R1 rfl
theorem se_not (ha : PE X a (tE S false fa)) : PE X (.UnaryOp .Not a pos) (tE S s (eNot fa)) :=
  PE.weak (pe_not ha) fun σ H Q ⟨c, w, at_, R, q⟩ => tE_mono (one at_ R q) fun x H1 ⟨w1, dx, R1, k1, h1, q1⟩ => by
    obtain ⟨k, rfl, q2⟩ := truth_some q1
    exact ⟨k, repS_bl h1, fin_flat R1 q2 rfl⟩
/-- a truth value, as a value -/
theorem one_bl {c : Fr} {w : List D} {H : Hp} {Q : VK} {σ : L2.St} (at_ : S.at c σ) (R : Rel S.g c w H) (q : Wp S.g c S.EX (M.bind (fa c.env) fun y => M.bind (truth y) fun k => M.pure (.bl k)) (c.repS s S.g) w H Q) : tE S false fa σ H Q := by
  refine tE_mono (one at_ R q) fun x H1 ⟨w1, dx, R1, k1, h1, q1⟩ => ?_
  obtain ⟨k, rfl, q2⟩ := truth_some q1
  cases repS_bl h1
  exact fin_flat R1 q2 rfl
theorem se_and (ha : PE X a (tE S false fa)) (hb : PE X (.BoolOp .And (b :: rest) pos) (tE S false fb)) : PE X (.BoolOp .And (a :: b :: rest) pos) (tE S s (eAnd fa fb)) :=
  PE.weak (pe_and ha hb) fun σ H Q ⟨c, w, at_, R, q⟩ => tE_mono (one at_ R q) fun x H1 ⟨w1, dx, R1, k1, h1, q1⟩ => by
    obtain ⟨k, rfl, q2⟩ := truth_some q1
    refine ⟨k, repS_bl h1, ite_bool (fun e => ?_) (fun e => ?_)⟩
    · subst e; exact one_bl at_ R1 q2
    · subst e; exact fin_flat R1 q2 rfl
theorem se_or (ha : PE X a (tE S false fa)) (hb : PE X (.BoolOp .Or (b :: rest) pos) (tE S false fb)) : PE X (.BoolOp .Or (a :: b :: rest) pos) (tE S s (eOr fa fb)) :=
  PE.weak (pe_or ha hb) fun σ H Q ⟨c, w, at_, R, q⟩ => tE_mono (one at_ R q) fun x H1 ⟨w1, dx, R1, k1, h1, q1⟩ => by
    obtain ⟨k, rfl, q2⟩ := truth_some q1
    refine ⟨k, repS_bl h1, ite_bool (fun e => ?_) (fun e => ?_)⟩
    · subst e; exact fin_flat R1 q2 rfl
    · subst e; exact one_bl at_ R1 q2
theorem se_ite (hc : PT X c' (tT S (tst fc))) (ha : PE X a (tE S s fa)) (hb : PE X b (tE S s fb)) : PE X (.IfExp c' a b pos) (tE S s (eIte fc fa fb)) :=
  PE.weak (pe_ifExp hc ha hb) fun σ H Q ⟨c, w, at_, R, q⟩ => by
    have q : Wp S.g c S.EX (M.bind (tst fc c.env) fun k => if k = true then fa c.env else fb c.env) (c.repS s S.g) w H Q := by
      unfold tst
      rw [M.bind_assoc]
      exact q
    refine tT_mono (oneT at_ R q) fun k H1 ⟨w1, R1, k1, q1⟩ => ite_bool (fun e => ?_) (fun e => ?_)
    · subst e; exact ⟨c, w1, at_, R1, q1⟩
    · subst e; exact ⟨c, w1, at_, R1, q1⟩
theorem st_ite (hc : PT X c' (tT S (tst fc))) (ha : PT X a (tT S (tst fa))) (hb : PT X b (tT S (tst fb))) (hi : ∀ whole, isTrue (.IfExp c' a b pos) X.env whole = (do if ← isTrue c' X.env (eval c' X.env) then isTrue a X.env (eval a X.env) else isTrue b X.env (eval b X.env))) :
    PT X (.IfExp c' a b pos) (tT S (tst (eIte fc fa fb))) := by
  refine ⟨fun pins s σ H Q I h => ?_⟩
  obtain ⟨c, w, at_, R, q⟩ := h
  rw [tst_ite] at q
  rw [hi]
  refine wpAny_bind (thn (hc.run pins s σ H _ I (oneT at_ R q)) fun d s1 ⟨H1, I1, w1, R1, k1, q1⟩ => ?_)
  cases d with
  | true => exact ha.run pins s1 σ H1 Q I1 ⟨c, w1, at_, R1, q1⟩
  | false => exact hb.run pins s1 σ H1 Q I1 ⟨c, w1, at_, R1, q1⟩
theorem se_neg (ha : PE X a (tE S false fa)) : PE X (.UnaryOp .USub a pos) (tE S s fun env => M.bind (fa env) fun x => liftO (negD x)) :=
  PE.weak (pe_un un_neg ha) fun σ H Q ⟨c, w, at_, R, q⟩ => tE_mono (one at_ R q) fun x H1 ⟨w1, dx, R1, k1, h1, q1⟩ => by
    cases dx with
    | int i => exact ⟨i, repS_int h1, fin_flat R1 q1 rfl⟩
    | _ => exact q1.elim
end
end VI
end
section
set_option maxRecDepth 100000
namespace VI
open PySem PySem.Spec PyProof.Rows L2
section
variable {X : Cx} {S : Sg} {s : Bool} {a b c' e : Expr} {es : List Expr} {fa fb fc fe : Env → M D} {fs : Env → M (List D)} {pos : Pos}
def eCons (fe : Env → M D) (fs : Env → M (List D)) : Env → M (List D) := fun env => M.bind (fe env) fun x => M.bind (fs env) fun xs => M.pure (x :: xs)
theorem sa_nil : PA X [] (tEs S s fun _ => M.pure []) := PA.weak pa_nil fun σ H Q ⟨c, w, at_, R, q⟩ => q.pure R rfl
theorem sa_cons (ha : PE X e (tE S s fe)) (hr : PA X es (tEs S s fs)) (hs : starEach (e :: es) X.env = (false, eval e X.env) :: starEach es X.env) : PA X (e :: es) (tEs S s (eCons fe fs)) :=
  PA.weak (pa_cons ha hr hs) fun σ H Q ⟨c, w, at_, R, q⟩ => tE_mono (one (f := fun x => M.bind (fs c.env) fun xs => M.pure (x :: xs)) (r := c.repsS s S.g) at_ R q) fun x H1 ⟨w1, dx, R1, k1, h1, q1⟩ =>
    ⟨c, w1, at_, R1, q1.bind.mono fun xs H2 ⟨ds, w2, R2, k2, h2, q2, _⟩ => q2.pure R2 ⟨x, xs, rfl, R1.repS k2 h1, h2⟩⟩
theorem tEs_mono {f : Env → M (List D)} {σ : L2.St} {H : Hp} {Q Q' : List V → Hp → Prop} (h : tEs S s f σ H Q) (i : ∀ v H', Q v H' → Q' v H') : tEs S s f σ H Q' := by
  obtain ⟨c, w, ha, R, q⟩ := h
  exact ⟨c, w, ha, R, q.mono i⟩
/-- arguments ahead -/
theorem oneA {α β : Type} {c : Fr} {w : List D} {H : Hp} {f : List D → M α} {r : Hp → α → β → Prop} {Q : β → Hp → Prop} {σ : L2.St} (ha : S.at c σ) (R : Rel S.g c w H)
    (h : Wp S.g c S.EX (M.bind (fs c.env) fun x => f x) r w H Q) :
    tEs S s fs σ H fun xs H1 => ∃ w' ds, Rel S.g c w' H1 ∧ Keep c.cup H H1 ∧ c.repsS s S.g H1 ds xs ∧ Wp S.g c S.EX (f ds) r w' H1 Q ∧ fs c.env w = .ok ds w' :=
  ⟨c, w, ha, R, h.bind.mono fun x H1 ⟨dx, w1, R1, k1, q1, h1, e⟩ => ⟨w1, dx, R1, k1, q1, h1, e⟩⟩
/-- as many as there are -/
def Len (fs : Env → M (List D)) (n : Nat) : Prop := ∀ env w ds w', fs env w = .ok ds w' → ds.length = n
theorem len_nil : Len (fun _ => M.pure []) 0 := fun env w ds w' h => by cases h; rfl
theorem len_cons {n : Nat} (h : Len fs n) : Len (eCons fe fs) (n + 1) := fun env w ds w' e => by
  unfold eCons M.bind at e
  cases e1 : fe env w with
  | ok x w1 =>
    rw [e1] at e
    cases e2 : fs env w1 with
    | ok xs w2 =>
      simp only [e2] at e
      cases e
      simpa using h env w1 xs _ e2
    | ex k w2 => simp only [e2] at e; cases e
    | no => simp only [e2] at e; cases e
  | ex k w1 => rw [e1] at e; cases e
  | no => rw [e1] at e; cases e
theorem Fr.repsS.length {c : Fr} {g : Gb} {H : Hp} : ∀ {ds : List D} {vs : List V}, c.repsS s g H ds vs → ds.length = vs.length
  | [], _, h => by cases h; rfl
  | d :: ds, vs, h => by
    obtain ⟨v, ws, rfl, _, h3⟩ := h
    simp [h3.length]
theorem few_line {n m : Nat} (h : n = m) (h2 : n ≤ 1000) : m ≤ sizeLine := by rw [sizeLine_eq]; omega
theorem se_tup {x1 : Nat} {n : Nat} (h : PA X es (tEs S true fs)) (hl : Len fs n) (hn : n ≤ 1000) : PE X (.Tuple es x1 pos) (tE S s fun env => M.bind (fs env) fun xs => M.pure (.tup xs)) :=
  PE.weak (pe_tup h) fun σ H Q ⟨c, w, at_, R, q⟩ => tEs_mono (oneA at_ R q) fun xs H1 ⟨w1, ds, R1, k1, h1, q1, e1⟩ => by
    have e2 := hl _ _ _ _ e1
    exact ⟨few_line h1.length (by omega), fun p hp => fin_tup R1 q1 h1.t hp⟩
theorem se_lst {n : Nat} (h : PA X es (tEs S true fs)) (hl : Len fs n) (hn : n ≤ 1000) : PE X (.List es pos) (tE S s fun env => M.bind (fs env) fun xs => M.pure (.lst xs)) :=
  PE.weak (pe_lst h) fun σ H Q ⟨c, w, at_, R, q⟩ => tEs_mono (oneA at_ R q) fun xs H1 ⟨w1, ds, R1, k1, h1, q1, e1⟩ => by
    have e2 := hl _ _ _ _ e1
    exact ⟨few_line h1.length (by omega), fun p hp => fin_lst R1 q1 h1.t hp⟩

/-! ### subscripts -/
theorem ixN_eq (n : Nat) (i : Int) : VI.ixN n i = L2.ixN n i := rfl
theorem at_rep {c : Fr} {H : Hp} {xs : List D} {vs : List V} {i : Int} {d : D} (h : c.reps S.g H xs vs) (e : ((VI.ixN xs.length i).bind fun j => xs[j]?) = some d) : ∃ v, atI vs i = some v ∧ c.rep S.g H d v := by
  obtain ⟨j, e1, e2⟩ := Option.bind_eq_some_iff.mp e
  obtain ⟨v, h1, h2⟩ := h.get e2
  refine ⟨v, ?_, h2⟩
  unfold atI
  rw [← h.length, ← ixN_eq, e1]
  exact h1
def rIdx (S : Sg) (s : Bool) : R2 := fun x y H Q => ∃ c w dx dy, Rel S.g c w H ∧ c.repS false S.g H dx x ∧ c.repS false S.g H dy y ∧ Wp S.g c S.EX (readCup dx dy) (c.repS s S.g) w H Q
theorem ixd (hK : X.K = S.g.K) : IxR X (rIdx S s) := by
  intro value slice pins sh σ H x y v u Q I rx ry h hs
  obtain ⟨c, w, dx, dy, R, hx, hy, q⟩ := h
  have fin : ∀ {d : D} {z : V}, Wp S.g c S.EX (M.pure d) (c.repS s S.g) w H Q → c.rep S.g H d z → Q z H := fun q h => q.pure R (Fr.rep.s R h s)
  cases dx with
  | cup =>
    obtain ⟨a, ha, rfl⟩ := repS_cup hx
    cases dy with
    | int j =>
      cases repS_int hy
      obtain ⟨vs, h1, h2⟩ := R.cupOk a ha
      have q : Wp S.g c S.EX (fun w => match (VI.ixN w.length j).bind fun k => w[k]? with | some d => .ok d w | none => .no) (c.repS s S.g) w H Q := q
      cases e : (VI.ixN w.length j).bind fun k => w[k]? with
      | some d =>
        obtain ⟨z, h3, h4⟩ := at_rep h2 e
        have q2 : Wp S.g c S.EX (M.pure d) (c.repS s S.g) w H Q := by
          unfold Wp at q ⊢
          simp only [e] at q
          exact q
        exact ix_list value slice pins sh σ H _ _ v u Q I rx ry ⟨a, vs, j, z, rfl, rfl, SqL.of h1, h3, fin q2 h4⟩ hs
      | none =>
        unfold Wp at q
        simp only [e] at q
    | _ => exact q.elim
  | tup ds =>
    obtain ⟨a, vs, rfl, h1, h2⟩ := repS_tup hx
    cases dy with
    | int j =>
      cases repS_int hy
      obtain ⟨d, e, q⟩ := q.lift
      obtain ⟨z, h3, h4⟩ := at_rep h2 (d := d) e
      exact ix_tup value slice pins sh σ H _ _ v u Q I rx ry ⟨a, vs, j, z, rfl, rfl, by rw [hK]; exact h1.sq, h3, fin q h4⟩ hs
    | _ => exact q.elim
  | lst ds =>
    obtain ⟨a, vs, rfl, h1, h2⟩ := repS_lst hx
    cases dy with
    | int j =>
      cases repS_int hy
      obtain ⟨d, e, q⟩ := q.lift
      obtain ⟨z, h3, h4⟩ := at_rep h2 (d := d) e
      exact ix_list value slice pins sh σ H _ _ v u Q I rx ry ⟨a, vs, j, z, rfl, rfl, SqL.of h1, h3, fin q h4⟩ hs
    | _ => exact q.elim
  | non => cases dy <;> exact q.elim
  | bl _ => cases dy <;> exact q.elim
  | int _ => cases dy <;> exact q.elim
  | str _ => cases dy <;> exact q.elim
  | fn _ => cases dy <;> exact q.elim
  | exn _ => cases dy <;> exact q.elim
theorem se_idx (hK : X.K = S.g.K) (ha : PE X a (tE S false fa)) (hb : PE X b (tE S false fb)) (hs : PlainIx b) : PE X (.Subscript a b pos) (tE S s fun env => M.bind (fa env) fun x => M.bind (fb env) fun y => readCup x y) :=
  PE.weak (pe_ix (ixd hK) ha hb hs) fun σ H Q ⟨c, w, at_, R, q⟩ => tE_mono (two at_ R q) fun x H1 h1 => tE_mono h1 fun y H2 ⟨w, dx, dy, R2, h3, h4, q2⟩ => ⟨c, w, dx, dy, R2, h3, h4, q2⟩

/-! ### slices -/
theorem sIx_eq (n d : Nat) (o : Option Int) : VI.sIx n d o = HT.sIx n d o := by cases o <;> rfl
theorem cut_eq (xs : List V) (lo hi : Option Int) : VI.cut xs lo hi = cutV xs lo hi := by
  unfold VI.cut cutV
  rw [sIx_eq, sIx_eq]
theorem Reps.cut {g : Gb} {cup : Option Addr} {bad : Addr → Prop} {H : Hp} {ds : List D} {vs : List V} (h : Reps g cup bad H ds vs) (lo hi : Option Int) : Reps g cup bad H (VI.cut ds lo hi) (cutV vs lo hi) := by
  rw [← cut_eq]
  unfold VI.cut
  rw [h.length]
  exact (h.drop _).take _
theorem cut_whole {α : Type} {xs : List α} {lo hi : Option Int} (h : HT.sIx xs.length 0 lo = 0 ∧ HT.sIx xs.length xs.length hi = xs.length) : VI.cut xs lo hi = xs := by
  unfold VI.cut
  rw [sIx_eq, sIx_eq, h.1, h.2]
  simp
def rCut (S : Sg) (s : Bool) : V → Option Int → Option Int → Hp → VK → Prop := fun x lo hi H Q => ∃ c w dx, Rel S.g c w H ∧ c.repS false S.g H dx x ∧ Wp S.g c S.EX (liftO (cutD dx lo hi)) (c.repS s S.g) w H Q
theorem sld (hK : X.K = S.g.K) : SlR X (rCut S s) := by
  intro pins sh σ H x v vl vu lo hi sl Q I rx hs pl pu h
  obtain ⟨c, w, dx, R, hx, q⟩ := h
  cases dx with
  | tup ds =>
    obtain ⟨a, vs, rfl, h1, h2⟩ := repS_tup hx
    refine sl_tupA pins sh σ H _ v vl vu lo hi sl Q I rx hs pl pu ⟨a, vs, rfl, by rw [hK]; exact h1.sq, fun z => ?_, fun _ p hp => fin_tup R q (h2.cut lo hi) hp⟩
    have e : VI.cut ds lo hi = ds := cut_whole (by rw [h2.length]; exact z)
    have q : Wp S.g c S.EX (M.pure (D.tup (VI.cut ds lo hi))) (c.repS s S.g) w H Q := q
    rw [e] at q
    exact q.pure R (Fr.rep.s (d := .tup ds) R (show Rep _ _ _ _ (.tup ds) _ from ⟨a, vs, rfl, h1, h2⟩) s)
  | lst ds =>
    obtain ⟨a, vs, rfl, h1, h2⟩ := repS_lst hx
    exact sl_list pins sh σ H _ v vl vu lo hi sl Q I rx hs pl pu ⟨a, vs, rfl, SqL.of h1, fun p hp => fin_lst R q (h2.cut lo hi) hp⟩
  | _ => exact q.elim
theorem toInt_some {d : D} {α β : Type} {c : Fr} {w : List D} {H : Hp} {f : Int → M α} {r : Hp → α → β → Prop} {Q : β → Hp → Prop} (h : Wp S.g c S.EX (M.bind (toInt d) f) r w H Q) : ∃ k, d = .int k ∧ Wp S.g c S.EX (f k) r w H Q := by
  cases d with
  | int k => exact ⟨k, rfl, h⟩
  | _ => exact h.elim
variable {p2 : Pos}
theorem se_slLo (hK : X.K = S.g.K) (ha : PE X a (tE S false fa)) (hb : PE X b (tE S false fb)) : PE X (.Subscript a (.Slice (some b) none none p2) pos) (tE S s fun env => M.bind (fa env) fun x => M.bind (fb env) fun y => M.bind (toInt y) fun i => liftO (cutD x (some i) none)) :=
  PE.weak (pe_slice (sld hK) ha (po_some hb) po_none) fun σ H Q ⟨c, w, at_, R, q⟩ => tE_mono (two at_ R q) fun x H1 h1 => tE_mono h1 fun y H2 ⟨w, dx, dy, R2, h3, h4, q2⟩ => by
    obtain ⟨k, rfl, q3⟩ := toInt_some q2
    exact ⟨k, repS_int h4, c, w, dx, R2, h3, q3⟩
theorem se_slHi (hK : X.K = S.g.K) (ha : PE X a (tE S false fa)) (hb : PE X b (tE S false fb)) : PE X (.Subscript a (.Slice none (some b) none p2) pos) (tE S s fun env => M.bind (fa env) fun x => M.bind (fb env) fun y => M.bind (toInt y) fun i => liftO (cutD x none (some i))) :=
  PE.weak (pe_slice (sld hK) ha po_none (po_some hb)) fun σ H Q ⟨c, w, at_, R, q⟩ => tE_mono (two at_ R q) fun x H1 h1 => tE_mono h1 fun y H2 ⟨w, dx, dy, R2, h3, h4, q2⟩ => by
    obtain ⟨k, rfl, q3⟩ := toInt_some q2
    exact ⟨k, repS_int h4, c, w, dx, R2, h3, q3⟩
theorem se_slBo (hK : X.K = S.g.K) (ha : PE X a (tE S false fa)) (hb : PE X b (tE S false fb)) (hc : PE X c' (tE S false fc)) :
    PE X (.Subscript a (.Slice (some b) (some c') none p2) pos) (tE S s fun env => M.bind (fa env) fun x => M.bind (fb env) fun y => M.bind (toInt y) fun i => M.bind (fc env) fun z => M.bind (toInt z) fun j => liftO (cutD x (some i) (some j))) :=
  PE.weak (pe_slice (sld hK) ha (po_some hb) (po_some hc)) fun σ H Q ⟨c, w, at_, R, q⟩ => tE_mono (two at_ R q) fun x H1 h1 => tE_mono h1 fun y H2 ⟨w, dx, dy, R2, h3, h4, q2⟩ => by
    obtain ⟨k, rfl, q3⟩ := toInt_some q2
    refine ⟨k, repS_int h4, tE_mono (one at_ R2 q3) fun z H3 ⟨w3, dz, R3, k3, h5, q4⟩ => ?_⟩
    obtain ⟨k2, rfl, q5⟩ := toInt_some q4
    exact ⟨k2, repS_int h5, c, w3, dx, R3, R2.repS k3 h3, q5⟩
end
end VI
end
section
set_option maxRecDepth 100000
namespace VI
open PySem PySem.Spec PyProof.Rows L2
/-! ### calls of defs -/
/-- the shared list holds w -/
def CupOk (g : Gb) (cup : Option Addr) (b0 : Addr → Prop) (w : List D) (H : Hp) : Prop := ∀ a, cup = some a → ∃ us, H a = some (.lst us) ∧ Reps g cup b0 H w us
/-- a def's promise: it does as m -/
def spF (g : Gb) (T : List (Addr × Str)) (cup : Option Addr) (ar : Nat) (m : List D → M D) : Sp := fun vs H Q E => vs.length = ar ∧ ∃ (b0 : Addr → Prop) (ds : List D) (w : List D),
  (∀ a, cup = some a → b0 a) ∧ (∀ a, b0 a → ∃ xs, H a = some (.lst xs)) ∧ CupOk g cup b0 w H ∧ LamX.Tabs T H ∧ Reps g cup b0 H ds vs ∧
  match m ds w with
  | .ok d w' => ∀ H' v, Keep cup H H' → CupOk g cup b0 w' H' → LamX.Tabs T H' → Rep g cup b0 H' d v → Q v H'
  | .ex k w' => ∀ H', Keep cup H H' → CupOk g cup b0 w' H' → LamX.Tabs T H' → E (.ref (g.ca k)) none H'
  | .no => False
theorem Rel.after {g : Gb} {c : Fr} {w w' : List D} {H H' : Hp} (R : Rel g c w H) (k : Keep c.cup H H') (hc : CupOk g c.cup c.bad w' H') (t : LamX.Tabs c.T H') : Rel g c w' H' where
  len := R.len
  ground := R.ground.trans k
  lists := fun a z => by
    by_cases e : c.cup = some a
    · obtain ⟨us, h, _⟩ := hc a e
      exact ⟨us, h⟩
    · obtain ⟨xs, h⟩ := R.lists a z
      exact ⟨xs, k.k _ _ h e noTbl_lst⟩
  cupB := R.cupB
  new := R.new
  cupOk := hc
  ndS := R.ndS
  ndA := R.ndA
  val := fun i d e => by
    obtain ⟨v, h1, h2⟩ := R.val i d e
    refine ⟨v, h1, ?_⟩
    rcases h2 with ⟨a, h3, h4, ds, vs, h5, h6, h7⟩ | ⟨h3, h4⟩
    · exact .inl ⟨a, h3, h4, ds, vs, h5, k.k _ _ h6 (fun z => (R.new _ h3).2 (R.cupB _ z)) noTbl_lst, R.reps k h7⟩
    · exact .inr ⟨h3, R.rep k h4⟩
  tabs := t
section
variable {X : Cx} {S : Sg} {s : Bool} {a b c' e : Expr} {es : List Expr} {fa fb fc fe : Env → M D} {fs : Env → M (List D)} {pos p : Pos}
/-- what a caller needs of a def -/
structure Callee (X : Cx) (S : Sg) (k : Nat) (m : List D → M D) (n : Nat) (f : Addr) : Prop where
  ex : ∃ (fd : FuncData) (ps : List Str), FnOk X.prog X.w X.K X.mg X.base (L2N.CX X.prog X.w) k f fd ps (spF S.g S.T S.cup n m) ∧ PySem.W.keepIn X.K (.ref f) = true ∧ Binds X.K fd ps []
theorem sp_of {c : Fr} {w : List D} {H : Hp} {ds : List D} {vs : List V} {m : List D → M D} {n : Nat} {Q : VK} {σ : L2.St} (at_ : S.at c σ) (R : Rel S.g c w H) (h : c.reps S.g H ds vs) (hn : vs.length = n) (q : Wp S.g c S.EX (m ds) (c.repS s S.g) w H Q) :
    spF S.g S.T S.cup n m (vs ++ []) H Q S.EX := by
  rw [List.append_nil]
  obtain ⟨e0, e1, e2, e3⟩ := at_
  refine ⟨hn, c.bad, ds, w, ?_, R.lists, ?_, ?_, ?_, ?_⟩
  · rw [← e2]; exact R.badCup
  · rw [← e2]; exact R.cupOk
  · rw [← e1]; exact R.tabs
  · rw [← e2]; exact h
  · rw [← e2, ← e1]
    unfold Wp at q
    cases e : m ds w with
    | ok d w' => rw [e] at q; exact fun H' v k hc t r => q H' v (R.after k hc t) k (Fr.rep.s (R.after k hc t) r s)
    | ex x w' => rw [e] at q; exact fun H' k hc t => q H' (R.after k hc t) k
    | no => rw [e] at q; exact q
theorem se_call {k n : Nat} {m : List D → M D} {f : Addr} {x : Str} (F : Callee X S k m n f) (hr : Room k X.A) (hg : Gl X x) (hm : X.mg x = some (.ref f)) (hx : Passes (L2N.CX X.prog X.w) X S.EX)
    (ha : PA X (e :: es) (tEs S true fs)) (hl : Len fs n) (hdb : (x == ("__debug__" : Str)) = false) (he : starEach (e :: es) X.env = (false, eval e X.env) :: starEach es X.env) (hpl : (backTo pos (starEach es X.env)).any (·.1) = false) :
    PE X (.Call (.Name x p) (e :: es) [] pos) (tE S s fun env => M.bind (fs env) m) := by
  obtain ⟨fd, ps, F, kp, b⟩ := F.ex
  exact PE.weak (pe_call F hr hg hm kp b .nil hx ha hdb he hpl) fun σ H Q ⟨c, w, at_, R, q⟩ => tEs_mono (oneA at_ R q) fun xs H1 ⟨w1, ds, R1, k1, h1, q1, e1⟩ =>
    sp_of at_ R1 h1.t (by rw [← h1.length]; exact hl _ _ _ _ e1) q1
theorem se_call0 {k : Nat} {m : List D → M D} {f : Addr} {x : Str} (F : Callee X S k m 0 f) (hr : Room k X.A) (hg : Gl X x) (hm : X.mg x = some (.ref f)) (hx : Passes (L2N.CX X.prog X.w) X S.EX) (hdb : (x == ("__debug__" : Str)) = false) :
    PE X (.Call (.Name x p) [] [] pos) (tE S s fun env => M.bind (M.pure []) m) := by
  obtain ⟨fd, ps, F, kp, b⟩ := F.ex
  exact PE.weak (pe_call0 F hr hg hm kp b .nil hx hdb) fun σ H Q ⟨c, w, at_, R, q⟩ => sp_of (ds := []) (vs := []) at_ R rfl rfl (show Wp S.g c S.EX (m []) (c.repS s S.g) w H Q from q)
/-- a def that a name holds -/
theorem se_callv {k n i : Nat} {cl : Nat → List D → M D} {ars : List Nat} {x : Str} (F : ∀ f, ars[f]? = some n → Callee X S k (cl f) n (S.g.fa f)) (hr : Room k X.A) (hN : X.N[i]? = some x) (hv : Vis X.env.scope x) (hx : Passes (L2N.CX X.prog X.w) X S.EX)
    (ha : PA X (e :: es) (tEs S true fs)) (hl : Len fs n) (ho : i ∉ S.own) (hd : (x == ("__debug__" : Str)) = false) (hcd : (x == ("__classdict__" : Str)) = false) (he : starEach (e :: es) X.env = (false, eval e X.env) :: starEach es X.env) (hpl : (backTo pos (starEach es X.env)).any (·.1) = false) :
    PE X (.Call (.Name x p) (e :: es) [] pos) (tE S s fun env => M.bind (getV env i) fun g => match g with | .fn f => if ars[f]? = some n then M.bind (fs env) fun xs => cl f xs else M.no | _ => M.no) := by
  refine ⟨fun pins sh σ H Q I h => ?_⟩
  obtain ⟨c, w, at_, R, q⟩ := h
  have q : Wp S.g c S.EX (M.bind (getV c.env i) fun g => match g with | .fn f => if ars[f]? = some n then M.bind (fs c.env) fun xs => cl f xs else M.no | _ => M.no) (c.repS s S.g) w H Q := q
  unfold getV at q
  split at q
  · rename_i d e0
    obtain ⟨v, h1, h2⟩ := R.val i d e0
    cases d with
    | fn f =>
      have q : Wp S.g c S.EX (if ars[f]? = some n then M.bind (fs c.env) fun xs => cl f xs else M.no) (c.repS s S.g) w H Q := q
      have hv' : v = .ref (S.g.fa f) := by
        rcases h2 with ⟨a, h3, _, ds, vs, h5, _⟩ | ⟨_, h4⟩
        · cases h5
        · exact h4
      subst hv'
      split at q
      · rename_i hn
        obtain ⟨fd, ps, F', kp, b⟩ := (F f hn).ex
        refine (pe_callL F' hr hN hv kp b .nil hx ha hd hcd he hpl).run pins sh σ H Q I ⟨?_, ?_⟩
        · rw [← at_.1]; exact h1
        · exact tEs_mono (oneA at_ R q) fun xs H1 ⟨w1, ds, R1, k1, h1, q1, e1⟩ => sp_of at_ R1 h1.t (by rw [← h1.length]; exact hl _ _ _ _ e1) q1
      · exact q.elim
    | _ => exact q.elim
  · exact q.elim

/-! ### built-in functions -/
/-- what a built-in asks -/
def rBi (S : Sg) (s : Bool) (b : Bi) : List V → Hp → VK → Prop := fun xs H Q => ∃ c w ds dz, Rel S.g c w H ∧ c.repsS false S.g H ds xs ∧ biD b ds = some dz ∧ Wp S.g c S.EX (M.pure dz) (c.repS s S.g) w H Q
theorem se_bi {T : Bi} {id : String} {x : Str} (hc : CallR X (.builtin id) (rBi S s T)) (hg : Gl X x) (hm : X.mg x = none) (hv : bootBuiltins x = some (.builtin id)) (ha : PA X (e :: es) (tEs S false fs)) (hn : x ≠ "__name__") (hdb : (x == ("__debug__" : Str)) = false)
    (he : starEach (e :: es) X.env = (false, eval e X.env) :: starEach es X.env) (hpl : (backTo pos (starEach es X.env)).any (·.1) = false) : PE X (.Call (.Name x p) (e :: es) [] pos) (tE S s fun env => M.bind (fs env) fun xs => liftO (biD T xs)) :=
  PE.weak (pe_callB hc hg hm hv ha hn hdb he hpl) fun σ H Q ⟨c, w, at_, R, q⟩ => tEs_mono (oneA at_ R q) fun xs H1 ⟨w1, ds, R1, k1, h1, q1, e1⟩ => by
    obtain ⟨dz, e2, q2⟩ := q1.lift
    exact ⟨c, w1, ds, dz, R1, h1, e2, q2⟩
theorem se_biTy {T : Bi} {id : String} {x : Str} (hc : CallR X (.type id) (rBi S s T)) (hg : Gl X x) (hm : X.mg x = none) (hv : bootBuiltins x = some (.type id)) (ha : PA X (e :: es) (tEs S false fs)) (hn : x ≠ "__name__") (hdb : (x == ("__debug__" : Str)) = false)
    (he : starEach (e :: es) X.env = (false, eval e X.env) :: starEach es X.env) (hpl : (backTo pos (starEach es X.env)).any (·.1) = false) : PE X (.Call (.Name x p) (e :: es) [] pos) (tE S s fun env => M.bind (fs env) fun xs => liftO (biD T xs)) :=
  PE.weak (pe_callTy hc hg hm hv ha hn hdb he hpl) fun σ H Q ⟨c, w, at_, R, q⟩ => tEs_mono (oneA at_ R q) fun xs H1 ⟨w1, ds, R1, k1, h1, q1, e1⟩ => by
    obtain ⟨dz, e2, q2⟩ := q1.lift
    exact ⟨c, w1, ds, dz, R1, h1, e2, q2⟩
theorem se_biFun {T : Bi} {id : String} {x : Str} (hc : CallR X (.builtin id) (rBi S s T)) (hg : Gl X x) (hm : X.mg x = some (.builtin id)) (ha : PA X (e :: es) (tEs S false fs)) (hdb : (x == ("__debug__" : Str)) = false)
    (he : starEach (e :: es) X.env = (false, eval e X.env) :: starEach es X.env) (hpl : (backTo pos (starEach es X.env)).any (·.1) = false) : PE X (.Call (.Name x p) (e :: es) [] pos) (tE S s fun env => M.bind (fs env) fun xs => liftO (biD T xs)) :=
  PE.weak (pe_callBfun hc hg hm ha hdb he hpl) fun σ H Q ⟨c, w, at_, R, q⟩ => tEs_mono (oneA at_ R q) fun xs H1 ⟨w1, ds, R1, k1, h1, q1, e1⟩ => by
    obtain ⟨dz, e2, q2⟩ := q1.lift
    exact ⟨c, w1, ds, dz, R1, h1, e2, q2⟩
section
variable {c : Fr} {w : List D} {H : Hp} {Q : VK} {xs : List V} {d d2 : D}
theorem reps1 (h : c.repsS false S.g H [d] xs) : ∃ x, xs = [x] ∧ c.repS false S.g H d x := by
  obtain ⟨v, ws, rfl, h2, h3⟩ := h
  cases h3
  exact ⟨v, rfl, h2⟩
theorem reps2 (h : c.repsS false S.g H [d, d2] xs) : ∃ x y, xs = [x, y] ∧ c.repS false S.g H d x ∧ c.repS false S.g H d2 y := by
  obtain ⟨v, ws, rfl, h2, h3⟩ := h
  obtain ⟨y, rfl, h4⟩ := reps1 h3
  exact ⟨v, y, rfl, h2, h4⟩
/-- a list or tuple that is read at its top -/
theorem repS_seq {ds : List D} {x : V} (h : c.repS false S.g H d x) (e : isSeq d = some ds) : ∃ a vs, x = .ref a ∧ c.reps S.g H ds vs ∧ ((d = .lst ds ∧ H a = some (.lst vs)) ∨ (d = .tup ds ∧ TupAt S.g.K c.bad H a vs)) := by
  cases d with
  | tup xs => cases e; obtain ⟨a, vs, h1, h2, h3⟩ := repS_tup h; exact ⟨a, vs, h1, h3, .inr ⟨rfl, h2⟩⟩
  | lst xs => cases e; obtain ⟨a, vs, h1, h2, h3⟩ := repS_lst h; exact ⟨a, vs, h1, h3, .inl ⟨rfl, h2⟩⟩
  | _ => cases e
theorem reps_ints : ∀ {ds : List D} {vs : List V} {ns : List Int}, c.reps S.g H ds vs → intsD ds = some ns → vs = ns.map V.int
  | [], _, _, h, e => by cases h; cases e; rfl
  | d :: ds, vs, ns, h, e => by
    obtain ⟨v, ws, rfl, h2, h3⟩ := h
    cases d with
    | int i =>
      simp only [intsD, Option.map_eq_some_iff] at e
      obtain ⟨ms, e1, rfl⟩ := e
      rw [reps_ints h3 e1]
      have h2 : v = .int i := h2
      rw [h2]; rfl
    | _ => cases e
theorem reps_bls : ∀ {ds : List D} {vs : List V} {ns : List Bool}, c.reps S.g H ds vs → blsD ds = some ns → vs = ns.map V.bl
  | [], _, _, h, e => by cases h; cases e; rfl
  | d :: ds, vs, ns, h, e => by
    obtain ⟨v, ws, rfl, h2, h3⟩ := h
    cases d with
    | bl i =>
      simp only [blsD, Option.map_eq_some_iff] at e
      obtain ⟨ms, e1, rfl⟩ := e
      rw [reps_bls h3 e1]
      have h2 : v = .bl i := h2
      rw [h2]; rfl
    | _ => cases e
theorem rep_ints : ∀ ns : List Int, c.reps S.g H (ns.map .int) (ns.map V.int)
  | [] => rfl
  | n :: ns => ⟨.int n, ns.map V.int, rfl, rfl, rep_ints ns⟩
end
theorem bi_len (hK : X.K = S.g.K) : CallR X (.builtin "len") (rBi S s .len) := by
  intro pins sh σ H xs us Q I r h
  obtain ⟨c, w, ds, dz, R, h1, e, q⟩ := h
  unfold biD at e
  split at e <;> first | contradiction | skip
  rename_i d
  obtain ⟨x, rfl, hx⟩ := reps1 h1
  obtain ⟨zs, e1, rfl⟩ := Option.map_eq_some_iff.mp e
  obtain ⟨a, vs, rfl, h2, h3⟩ := repS_seq hx e1
  refine call_len_seq pins sh σ H _ us Q I r ⟨a, vs, rfl, ?_, ?_⟩
  · rcases h3 with ⟨_, h3⟩ | ⟨_, h3⟩
    · exact .inl (SqL.of h3)
    · exact .inr (by rw [hK]; exact h3.sq)
  · rw [← h2.length]
    exact fin_flat R q rfl
theorem bi_abs : CallR X (.builtin "abs") (rBi S s .abs) := by
  intro pins sh σ H xs us Q I r h
  obtain ⟨c, w, ds, dz, R, h1, e, q⟩ := h
  unfold biD at e
  split at e <;> first | contradiction | skip
  cases e
  obtain ⟨x, rfl, hx⟩ := reps1 h1
  cases repS_int hx
  exact call_abs pins sh σ H _ us Q I r ⟨_, rfl, fin_flat R q rfl⟩
theorem bi_gcd : CallR X (.builtin "math.gcd") (rBi S s .gcd) := by
  intro pins sh σ H xs us Q I r h
  obtain ⟨c, w, ds, dz, R, h1, e, q⟩ := h
  unfold biD at e
  split at e <;> first | contradiction | skip
  cases e
  obtain ⟨x, y, rfl, hx, hy⟩ := reps2 h1
  cases repS_int hx; cases repS_int hy
  exact cr_gcd pins sh σ H _ us Q I r ⟨_, _, rfl, fin_flat R q rfl⟩
theorem bi_int : CallR X (.type "int") (rBi S s .int) := by
  intro pins sh σ H xs us Q I r h
  obtain ⟨c, w, ds, dz, R, h1, e, q⟩ := h
  unfold biD at e
  split at e <;> first | contradiction | skip
  · cases e
    obtain ⟨x, rfl, hx⟩ := reps1 h1
    cases repS_int hx
    exact call_int1 pins sh σ H _ us Q I r (.inl ⟨_, rfl, fin_flat R q rfl⟩)
  · cases e
    obtain ⟨x, rfl, hx⟩ := reps1 h1
    cases repS_bl hx
    exact call_int1 pins sh σ H _ us Q I r (.inr ⟨_, rfl, fin_flat R q rfl⟩)
theorem bi_list (hK : X.K = S.g.K) : CallR X (.type "list") (rBi S s .list) := by
  intro pins sh σ H xs us Q I r h
  obtain ⟨c, w, ds, dz, R, h1, e, q⟩ := h
  unfold biD at e
  split at e <;> first | contradiction | skip
  obtain ⟨x, rfl, hx⟩ := reps1 h1
  obtain ⟨zs, e1, rfl⟩ := Option.map_eq_some_iff.mp e
  obtain ⟨a, vs, rfl, h2, h3⟩ := repS_seq hx e1
  refine call_list_of pins sh σ H _ us Q I r ⟨a, vs, rfl, ?_, fun p hp => fin_lst R q h2 hp⟩
  rcases h3 with ⟨_, h3⟩ | ⟨_, h3⟩
  · exact .inl (SqL.of h3)
  · exact .inr (by rw [hK]; exact h3.sq)
theorem bi_tuple (hK : X.K = S.g.K) : CallR X (.type "tuple") (rBi S s .tuple) := by
  intro pins sh σ H xs us Q I r h
  obtain ⟨c, w, ds, dz, R, h1, e, q⟩ := h
  unfold biD at e
  split at e <;> first | contradiction | skip
  obtain ⟨x, rfl, hx⟩ := reps1 h1
  obtain ⟨zs, e1, rfl⟩ := Option.map_eq_some_iff.mp e
  obtain ⟨a, vs, rfl, h2, h3⟩ := repS_seq hx e1
  refine call_tuple_of pins sh σ H _ us Q I r ⟨a, vs, rfl, ?_⟩
  rcases h3 with ⟨_, h3⟩ | ⟨_, h3⟩
  · exact .inl ⟨SqL.of h3, fun p hp => fin_tup R q h2 hp⟩
  · exact .inr ⟨by rw [hK]; exact h3.sq, q.pure R (Fr.rep.s (d := .tup zs) R (show Rep _ _ _ _ (.tup zs) _ from ⟨a, vs, rfl, h3, h2⟩) s)⟩
theorem bi_all (hc : X.calm = true) : CallR X (.builtin "all") (rBi S s .all) := by
  intro pins sh σ H xs us Q I r h
  obtain ⟨c, w, ds, dz, R, h1, e, q⟩ := h
  unfold biD at e
  split at e <;> first | contradiction | skip
  obtain ⟨x, rfl, hx⟩ := reps1 h1
  obtain ⟨bs, e1, rfl⟩ := Option.map_eq_some_iff.mp e
  obtain ⟨a, vs, rfl, h2, h3⟩ := repS_lst hx
  have := reps_bls h3 e1
  subst this
  exact cr_all hc pins sh σ H _ us Q I r ⟨a, bs, rfl, SqL.of h2, fin_flat R q rfl⟩
theorem bi_any (hc : X.calm = true) : CallR X (.builtin "any") (rBi S s .any) := by
  intro pins sh σ H xs us Q I r h
  obtain ⟨c, w, ds, dz, R, h1, e, q⟩ := h
  unfold biD at e
  split at e <;> first | contradiction | skip
  obtain ⟨x, rfl, hx⟩ := reps1 h1
  obtain ⟨bs, e1, rfl⟩ := Option.map_eq_some_iff.mp e
  obtain ⟨a, vs, rfl, h2, h3⟩ := repS_lst hx
  have := reps_bls h3 e1
  subst this
  exact cr_any hc pins sh σ H _ us Q I r ⟨a, bs, rfl, SqL.of h2, fin_flat R q rfl⟩
end
end VI
end
section
set_option maxRecDepth 100000
namespace VI
open PySem PySem.Spec PyProof.Rows L2
section
variable {X : Cx} {S : Sg} {s : Bool} {a b c' e : Expr} {es : List Expr} {fa fb fc fe : Env → M D} {fs : Env → M (List D)} {pos p p2 : Pos}
theorem foldl_max (l : List Int) : ∀ i : Int, (l.foldl (fun a b => if b > a then b else a) i ∈ i :: l) ∧ ∀ y ∈ i :: l, y ≤ l.foldl (fun a b => if b > a then b else a) i := by
  induction l with
  | nil => intro i; simp
  | cons x l ih =>
    intro i
    rw [List.foldl_cons]
    obtain ⟨h1, h2⟩ := ih (if x > i then x else i)
    refine ⟨?_, fun y hy => ?_⟩
    · rcases List.mem_cons.mp h1 with e | e
      · rw [e]; split <;> simp
      · exact List.mem_cons_of_mem _ (List.mem_cons_of_mem _ e)
    · have h0 := h2 _ (List.mem_cons_self)
      have b1 : i ≤ if x > i then x else i := by split <;> omega
      have b2 : x ≤ if x > i then x else i := by split <;> omega
      rcases List.mem_cons.mp hy with e | e
      · rw [e]; exact Int.le_trans b1 h0
      · rcases List.mem_cons.mp e with e | e
        · rw [e]; exact Int.le_trans b2 h0
        · exact h2 y (List.mem_cons_of_mem _ e)
theorem foldl_min (l : List Int) : ∀ i : Int, (l.foldl (fun a b => if b < a then b else a) i ∈ i :: l) ∧ ∀ y ∈ i :: l, l.foldl (fun a b => if b < a then b else a) i ≤ y := by
  induction l with
  | nil => intro i; simp
  | cons x l ih =>
    intro i
    rw [List.foldl_cons]
    obtain ⟨h1, h2⟩ := ih (if x < i then x else i)
    refine ⟨?_, fun y hy => ?_⟩
    · rcases List.mem_cons.mp h1 with e | e
      · rw [e]; split <;> simp
      · exact List.mem_cons_of_mem _ (List.mem_cons_of_mem _ e)
    · have h0 := h2 _ (List.mem_cons_self)
      have b1 : (if x < i then x else i) ≤ i := by split <;> omega
      have b2 : (if x < i then x else i) ≤ x := by split <;> omega
      rcases List.mem_cons.mp hy with e | e
      · rw [e]; exact Int.le_trans h0 b1
      · rcases List.mem_cons.mp e with e | e
        · rw [e]; exact Int.le_trans h0 b2
        · exact h2 y (List.mem_cons_of_mem _ e)
/-! #### the least, the greatest, the sum of a tuple -/
section
variable {prog : Program} {w : World} {A : Around} {E : Value → Shared → Prop} {s : Shared} {l : Addr} {its : List Value} {ns : List Int} {Q : Value → Shared → Prop}
theorem tup_kept {o : Obj} {h' : Heap} (hk : ∀ b u, b ∉ [s.heap.objs.size] → (s.heap.push o).get? b = some u → h'.get? b = some u) : ∀ b u, s.heap.get? b = some u → h'.get? b = some u := fun b u e => by
  refine hk b u (fun hm => ?_) (Heap.get?_push_of_some _ e)
  rcases List.mem_cons.mp hm with e1 | hm
  · exact absurd (e1 ▸ Heap.lt_size e) (Nat.lt_irrefl _)
  · cases hm
theorem tup_least (hh : A.handled = none) (hl : s.heap.IsTuple l its.toArray) (hi : IntsAre its ns) (hne : 0 < ns.length)
    (h : ∀ h' tk m t', (∀ b o, s.heap.get? b = some o → h'.get? b = some o) → m ∈ ns → (∀ a, a ∈ ns → m ≤ a) → Q (.int m t') { s with heap := h', toks := tk }) : wpAny (model prog w) A (call (.builtin "min") [.ref l]) Q E s := by
  obtain ⟨xs, e⟩ := hi.allInts.items
  have hn : numsOf (intItems xs).toList = ns := by rw [← e]; exact hi.numsOf
  rw [nums_intItems] at hn
  subst hn
  rw [e] at hl
  have hsz : 0 < xs.size := by simpa using hne
  have hlt : l < s.heap.objs.size := by obtain ⟨_, e, _⟩ := hl; exact Heap.lt_size e
  refine call_min_walk (wpAny_pyIter_tuple hl ?_)
  refine ⟨s.heap.objs.size, _, _, _, _, _, _, rfl, Walks.tuple (A := A.in1) hh _ l (Nat.ne_of_lt hlt) (intItems xs), ⟨⟨_, Heap.get?_push_size _ rfl, rfl, rfl⟩, hl.push _⟩, fun b hb => ?_, by simpa [intItems] using hsz, CmpOf.ints_lt (numAt xs) (fun _ _ => intItems_at), fun v h' tk hP hk => ?_⟩
  · show b < (s.heap.push _).objs.size
    rw [Heap.size_push]
    rcases List.mem_cons.mp hb with rfl | hb
    · exact Nat.lt_succ_self _
    · rcases List.mem_cons.mp hb with rfl | hb
      · exact Nat.lt_succ_of_lt hlt
      · cases hb
  obtain ⟨t, rfl⟩ := intItems_at hP
  obtain ⟨h1, h2⟩ := argBest_lt (numAt xs) ((intItems xs).size - 1)
  have z : (intItems xs).size = xs.size := by simp [intItems]
  rw [z] at h1 h2 ⊢
  refine h h' tk _ t (tup_kept hk) ?_ fun a ha => ?_
  · rw [numAt_eq]; exact PySem.getD_mem (by rw [List.length_map, Array.length_toList]; omega)
  · obtain ⟨j, hj, rfl⟩ := mem_getD ha
    rw [List.length_map, Array.length_toList] at hj
    rw [← numAt_eq]; exact h2 j (by omega)
theorem tup_most (hh : A.handled = none) (hl : s.heap.IsTuple l its.toArray) (hi : IntsAre its ns) (hne : 0 < ns.length)
    (h : ∀ h' tk m t', (∀ b o, s.heap.get? b = some o → h'.get? b = some o) → m ∈ ns → (∀ a, a ∈ ns → a ≤ m) → Q (.int m t') { s with heap := h', toks := tk }) : wpAny (model prog w) A (call (.builtin "max") [.ref l]) Q E s := by
  obtain ⟨xs, e⟩ := hi.allInts.items
  have hn : numsOf (intItems xs).toList = ns := by rw [← e]; exact hi.numsOf
  rw [nums_intItems] at hn
  subst hn
  rw [e] at hl
  have hsz : 0 < xs.size := by simpa using hne
  have hlt : l < s.heap.objs.size := by obtain ⟨_, e, _⟩ := hl; exact Heap.lt_size e
  refine call_max_walk (wpAny_pyIter_tuple hl ?_)
  refine ⟨s.heap.objs.size, _, _, _, _, _, _, rfl, Walks.tuple (A := A.in1) hh _ l (Nat.ne_of_lt hlt) (intItems xs), ⟨⟨_, Heap.get?_push_size _ rfl, rfl, rfl⟩, hl.push _⟩, fun b hb => ?_, by simpa [intItems] using hsz, CmpOf.ints_gt (numAt xs) (fun _ _ => intItems_at), fun v h' tk hP hk => ?_⟩
  · show b < (s.heap.push _).objs.size
    rw [Heap.size_push]
    rcases List.mem_cons.mp hb with rfl | hb
    · exact Nat.lt_succ_self _
    · rcases List.mem_cons.mp hb with rfl | hb
      · exact Nat.lt_succ_of_lt hlt
      · cases hb
  obtain ⟨t, rfl⟩ := intItems_at hP
  obtain ⟨h1, h2⟩ := argBest_gt (numAt xs) ((intItems xs).size - 1)
  have z : (intItems xs).size = xs.size := by simp [intItems]
  rw [z] at h1 h2 ⊢
  refine h h' tk _ t (tup_kept hk) ?_ fun a ha => ?_
  · rw [numAt_eq]; exact PySem.getD_mem (by rw [List.length_map, Array.length_toList]; omega)
  · obtain ⟨j, hj, rfl⟩ := mem_getD ha
    rw [List.length_map, Array.length_toList] at hj
    rw [← numAt_eq]; exact h2 j (by omega)
theorem tup_sum (hh : A.handled = none) (hl : s.heap.IsTuple l its.toArray) (hi : IntsAre its ns)
    (h : ∀ h' tk t', (∀ b o, s.heap.get? b = some o → h'.get? b = some o) → Q (.int ns.sum t') { s with heap := h', toks := tk }) : wpAny (model prog w) A (call (.builtin "sum") [.ref l]) Q E s := by
  obtain ⟨xs, e⟩ := hi.allInts.items
  have hn : numsOf (intItems xs).toList = ns := by rw [← e]; exact hi.numsOf
  rw [nums_intItems] at hn
  rw [e] at hl
  refine PySem.W.ktm_sumG hh hl fun h' tk t' hk => ?_
  have := h h' tk t' hk
  rw [preSum_eq, List.take_of_length_le (by simp), hn]
  exact this
end
theorem cr_leastT (hc : X.calm = true) : CallR X (.builtin "min") (fun vs H Q => ∃ (a : Addr) (ns : List Int), vs = [V.ref a] ∧ SqT X.K H a (ns.map V.int) ∧ 0 < ns.length ∧ ∀ m, m ∈ ns → (∀ y, y ∈ ns → m ≤ y) → Q (.int m) H) := by
  intro pins s σ H vs us Q I r h
  obtain ⟨a, ns, rfl, hs, hne, q⟩ := h
  obtain ⟨its, rv, hl, _⟩ := I.tuple hs
  rw [Vals.ref1 r]
  exact tup_least (I.ok.hd hc) hl rv.ints hne fun h' tk m t' hk h1 h2 => ⟨.int _, H, I.kept hk, ⟨_, rfl⟩, q m h1 h2⟩
theorem cr_mostT (hc : X.calm = true) : CallR X (.builtin "max") (fun vs H Q => ∃ (a : Addr) (ns : List Int), vs = [V.ref a] ∧ SqT X.K H a (ns.map V.int) ∧ 0 < ns.length ∧ ∀ m, m ∈ ns → (∀ y, y ∈ ns → y ≤ m) → Q (.int m) H) := by
  intro pins s σ H vs us Q I r h
  obtain ⟨a, ns, rfl, hs, hne, q⟩ := h
  obtain ⟨its, rv, hl, _⟩ := I.tuple hs
  rw [Vals.ref1 r]
  exact tup_most (I.ok.hd hc) hl rv.ints hne fun h' tk m t' hk h1 h2 => ⟨.int _, H, I.kept hk, ⟨_, rfl⟩, q m h1 h2⟩
theorem cr_sumT (hc : X.calm = true) : CallR X (.builtin "sum") (fun vs H Q => ∃ (a : Addr) (ns : List Int), vs = [V.ref a] ∧ SqT X.K H a (ns.map V.int) ∧ Q (.int ns.sum) H) := by
  intro pins s σ H vs us Q I r h
  obtain ⟨a, ns, rfl, hs, q⟩ := h
  obtain ⟨its, rv, hl, _⟩ := I.tuple hs
  rw [Vals.ref1 r]
  exact tup_sum (I.ok.hd hc) hl rv.ints fun h' tk t' hk => ⟨.int _, H, I.kept hk, ⟨_, rfl⟩, q⟩
theorem bi_max (hK : X.K = S.g.K) (hc : X.calm = true) : CallR X (.builtin "max") (rBi S s .max) := by
  intro pins sh σ H xs us Q I r h
  obtain ⟨c, w, ds, dz, R, h1, e, q⟩ := h
  unfold biD at e
  split at e <;> first | contradiction | skip
  · cases e
    obtain ⟨x, y, rfl, hx, hy⟩ := reps2 h1
    cases repS_int hx; cases repS_int hy
    exact call_max2 hc pins sh σ H _ us Q I r ⟨_, _, rfl, fin_flat R q rfl⟩
  · split at e <;> first | contradiction | skip
    rename_i i is e1
    cases e
    obtain ⟨x, rfl, hx⟩ := reps1 h1
    obtain ⟨a, vs, rfl, h2, h3⟩ := repS_lst hx
    have := reps_ints h3 e1
    subst this
    refine cr_max hc pins sh σ H _ us Q I r ⟨a, i :: is, rfl, SqL.of h2, by simp, fun m h4 h5 => ?_⟩
    obtain ⟨h6, h7⟩ := foldl_max is i
    have e2 : m = is.foldl (fun a b => if b > a then b else a) i := by
      have := h7 m h4
      have := h5 _ h6
      omega
    rw [e2]
    exact fin_flat R q rfl
  · split at e <;> first | contradiction | skip
    rename_i i is e1
    cases e
    obtain ⟨x, rfl, hx⟩ := reps1 h1
    obtain ⟨a, vs, rfl, h2, h3⟩ := repS_tup hx
    have := reps_ints h3 e1
    subst this
    refine cr_mostT hc pins sh σ H _ us Q I r ⟨a, i :: is, rfl, by rw [hK]; exact h2.sq, by simp, fun m h4 h5 => ?_⟩
    obtain ⟨h6, h7⟩ := foldl_max is i
    have e2 : m = is.foldl (fun a b => if b > a then b else a) i := by
      have := h7 m h4
      have := h5 _ h6
      omega
    rw [e2]
    exact fin_flat R q rfl
theorem bi_min (hK : X.K = S.g.K) (hc : X.calm = true) : CallR X (.builtin "min") (rBi S s .min) := by
  intro pins sh σ H xs us Q I r h
  obtain ⟨c, w, ds, dz, R, h1, e, q⟩ := h
  unfold biD at e
  split at e <;> first | contradiction | skip
  · cases e
    obtain ⟨x, y, rfl, hx, hy⟩ := reps2 h1
    cases repS_int hx; cases repS_int hy
    exact call_min2 hc pins sh σ H _ us Q I r ⟨_, _, rfl, fin_flat R q rfl⟩
  · split at e <;> first | contradiction | skip
    rename_i i is e1
    cases e
    obtain ⟨x, rfl, hx⟩ := reps1 h1
    obtain ⟨a, vs, rfl, h2, h3⟩ := repS_lst hx
    have := reps_ints h3 e1
    subst this
    refine cr_min hc pins sh σ H _ us Q I r ⟨a, i :: is, rfl, SqL.of h2, by simp, fun m h4 h5 => ?_⟩
    obtain ⟨h6, h7⟩ := foldl_min is i
    have e2 : m = is.foldl (fun a b => if b < a then b else a) i := by
      have := h7 m h4
      have := h5 _ h6
      omega
    rw [e2]
    exact fin_flat R q rfl
  · split at e <;> first | contradiction | skip
    rename_i i is e1
    cases e
    obtain ⟨x, rfl, hx⟩ := reps1 h1
    obtain ⟨a, vs, rfl, h2, h3⟩ := repS_tup hx
    have := reps_ints h3 e1
    subst this
    refine cr_leastT hc pins sh σ H _ us Q I r ⟨a, i :: is, rfl, by rw [hK]; exact h2.sq, by simp, fun m h4 h5 => ?_⟩
    obtain ⟨h6, h7⟩ := foldl_min is i
    have e2 : m = is.foldl (fun a b => if b < a then b else a) i := by
      have := h7 m h4
      have := h5 _ h6
      omega
    rw [e2]
    exact fin_flat R q rfl
theorem insI_perm (a : Int) : ∀ l, (insI a l).Perm (a :: l)
  | [] => List.Perm.refl _
  | b :: l => by
    unfold insI
    split
    · exact List.Perm.refl _
    · exact ((insI_perm a l).cons b).trans (List.Perm.swap a b l)
theorem sortI_perm : ∀ l, (sortI l).Perm l
  | [] => List.Perm.refl _
  | a :: l => (insI_perm a (sortI l)).trans ((sortI_perm l).cons a)
theorem insI_sorted (a : Int) : ∀ l : List Int, l.Pairwise (· ≤ ·) → (insI a l).Pairwise (· ≤ ·)
  | [], _ => by simp [insI]
  | b :: l, h => by
    unfold insI
    obtain ⟨h1, h2⟩ := List.pairwise_cons.mp h
    split
    · rename_i hab
      refine List.pairwise_cons.mpr ⟨fun y hy => ?_, h⟩
      rcases List.mem_cons.mp hy with e | e
      · subst e; exact hab
      · have := h1 y e; omega
    · rename_i hab
      refine List.pairwise_cons.mpr ⟨fun y hy => ?_, insI_sorted a l h2⟩
      have hy := (insI_perm a l).mem_iff.mp hy
      rcases List.mem_cons.mp hy with e | e
      · subst e; omega
      · exact h1 y e
theorem sortI_sorted : ∀ l : List Int, (sortI l).Pairwise (· ≤ ·)
  | [] => List.Pairwise.nil
  | a :: l => insI_sorted a _ (sortI_sorted l)
theorem sorted_one : ∀ {l m : List Int}, l.Perm m → l.Pairwise (· ≤ ·) → m.Pairwise (· ≤ ·) → l = m
  | [], m, p, _, _ => (List.Perm.nil_eq p)
  | a :: l, [], p, _, _ => (List.Perm.eq_nil p)
  | a :: l, b :: m, p, h1, h2 => by
    obtain ⟨h3, h4⟩ := List.pairwise_cons.mp h1
    obtain ⟨h5, h6⟩ := List.pairwise_cons.mp h2
    have e : a = b := by
      have m1 : a ∈ b :: m := p.mem_iff.mp List.mem_cons_self
      have m2 : b ∈ a :: l := p.mem_iff.mpr List.mem_cons_self
      rcases List.mem_cons.mp m1 with q | q
      · exact q
      · rcases List.mem_cons.mp m2 with q2 | q2
        · exact q2.symm
        · have := h5 a q; have := h3 b q2; omega
    subst e
    rw [sorted_one (List.Perm.cons_inv p) h4 h6]
theorem bi_sorted : CallR X (.builtin "sorted") (rBi S s .sorted) := by
  intro pins sh σ H xs us Q I r h
  obtain ⟨c, w, ds, dz, R, h1, e, q⟩ := h
  unfold biD at e
  split at e <;> first | contradiction | skip
  obtain ⟨x, rfl, hx⟩ := reps1 h1
  obtain ⟨ns, e1, rfl⟩ := Option.map_eq_some_iff.mp e
  obtain ⟨ms, e2, e3⟩ := Option.bind_eq_some_iff.mp e1
  split at e3
  · rename_i hl
    cases e3
    obtain ⟨a, vs, rfl, h2, h3⟩ := repS_lst hx
    have := reps_ints h3 e2
    subst this
    refine cr_sorted pins sh σ H _ us Q I r ⟨a, ns, rfl, SqL.of h2, hl, fun ns' p h4 h5 hp => ?_⟩
    rw [sorted_one (h4.trans (sortI_perm ns).symm) h5 (sortI_sorted ns)]
    exact fin_lst R q (rep_ints _) hp
  · cases e3
theorem bi_sumL (hK : X.K = S.g.K) (hc : X.calm = true) : CallR X (.builtin "sum") (fun xs H Q => ∃ (c : Fr) (w : List D) (a : Addr) (ns : List Int) (vs : List V), Rel S.g c w H ∧ xs = [.ref a] ∧ (H a = some (.lst vs) ∨ SqT S.g.K H a vs) ∧ vs = ns.map V.int ∧ Wp S.g c S.EX (M.pure (.int ns.sum)) (c.repS s S.g) w H Q) := by
  intro pins sh σ H xs us Q I r h
  obtain ⟨c, w, a, ns, vs, R, rfl, h1, rfl, q⟩ := h
  rcases h1 with h1 | h1
  · exact cr_sum hc pins sh σ H _ us Q I r ⟨a, ns, rfl, SqL.of h1, fin_flat R q rfl⟩
  · exact cr_sumT hc pins sh σ H _ us Q I r ⟨a, ns, rfl, by rw [hK]; exact h1, fin_flat R q rfl⟩

/-! ### isinstance -/
def tyN : Ty → String
  | .int => "int" | .bool => "bool" | .tuple => "tuple" | .list => "list" | .str => "str"
def tyV (t : Ty) : V := .ty (tyN t)
theorem isi_ty {c : Fr} {H : Hp} {d : D} {x : V} {t : Ty} {k : Bool} (h : c.repS false S.g H d x) (e : tyOf d t = some k) : ∃ u, TyX S.g.K H x (.type u) ∧ kitB u (tyN t) = some k := by
  cases d with
  | non => cases repS_non h; cases e; exact ⟨_, .base .non, by cases t <;> decide +kernel⟩
  | bl b => cases repS_bl h; cases e; exact ⟨_, .base (.bl b), by cases t <;> decide +kernel⟩
  | int b => cases repS_int h; cases e; exact ⟨_, .base (.int b), by cases t <;> decide +kernel⟩
  | str b => cases repS_str h; cases e; exact ⟨_, .base (.str b), by cases t <;> decide +kernel⟩
  | fn b => cases e
  | cup => cases e
  | exn b => cases e
  | tup b =>
    obtain ⟨a, vs, rfl, h2, _⟩ := repS_tup h
    cases e
    refine ⟨"tuple", ?_, by cases t <;> decide +kernel⟩
    rcases h2 with ⟨h2, _⟩ | ⟨o, its, n, h2, h3, _⟩
    · exact .base (.tup h2)
    · exact .kTuple h2 h3
  | lst b =>
    obtain ⟨a, vs, rfl, h2, _⟩ := repS_lst h
    cases e
    exact ⟨"list", .base (.lst h2), by cases t <;> decide +kernel⟩
theorem isiD_one {d : D} {t : Ty} {k : Bool} (h : isiD d [t] = some k) : tyOf d t = some k := by
  unfold isiD at h
  cases e : tyOf d t with
  | none => rw [e] at h; cases h
  | some b =>
    rw [e] at h
    cases b with
    | true => exact h
    | false => exact h
theorem se_isi {t : Ty} {x : Str} (hK : X.K = S.g.K) (hg : Gl X "isinstance") (hm : X.mg "isinstance" = none) (hg2 : Gl X x) (hm2 : X.mg x = none) (hx : bootBuiltins x = some (.type (tyN t))) (hn : x ≠ "__name__") (hdb : (x == ("__debug__" : Str)) = false)
    (ha : PE X a (tE S false fa)) (he : starEach [a, .Name x p2] X.env = (false, eval a X.env) :: starEach [.Name x p2] X.env) :
    PE X (.Call (.Name "isinstance" p) [a, .Name x p2] [] pos) (tE S s fun env => M.bind (fa env) fun x => M.bind (liftO (isiD x [t])) fun b => M.pure (.bl b)) :=
  PE.weak (pe_callB call_isi hg hm boot_isinstance (pa_cons ha (pa_cons (pe_bltn (v := tyV t) hg2 hm2 hx rfl hn hdb) pa_nil rfl) he) (by decide) (by decide) he rfl) fun σ H Q ⟨c, w, at_, R, q⟩ =>
    tE_mono (one at_ R q) fun x H1 ⟨w1, dx, R1, k1, h1, q1⟩ => by
      obtain ⟨k, e, q2⟩ := q1.liftB
      obtain ⟨u, h2, h3⟩ := isi_ty h1 (isiD_one e)
      exact ⟨x, tyV t, .type u, .type (tyN t), k, rfl, .ty _, by rw [hK]; exact h2, kit_ty h3, fin_flat R1 q2 rfl⟩
end
end VI
end
section
set_option maxRecDepth 100000
namespace VI
open PySem PySem.Spec PyProof.Rows L2
/-! ### targets -/
mutual
def readT (K : PySem.W.Frag) : T → TG
  | .nm i => gName i
  | .tp ts => gTup K ts.len (readTs K ts)
def readTs (K : PySem.W.Frag) : Ts → TGs
  | .nil => gNil
  | .cons t ts => gCons (readT K t) (readTs K ts)
end
abbrev Fr.to (c : Fr) (env : Env) (σ : L2.St) : Fr := { c with env := env, σ := σ }
section
variable {g : Gb} {c : Fr} {w w' : List D} {H H' : Hp}
theorem Rel.setS (R : Rel g c w H) {i : Nat} {d : D} {v : V} (h : c.rep g H d v) (hi : i ∉ c.Own.map (·.1)) : Rel g (c.to (c.env.set i (some d)) (c.σ.set i (some v))) w H where
  len := by simp [R.len]
  ground := R.ground
  lists := R.lists
  cupB := R.cupB
  new := R.new
  cupOk := R.cupOk
  ndS := R.ndS
  ndA := R.ndA
  val := fun j e q => by
    have q : (c.env.set i (some d))[j]? = some (some e) := q
    by_cases hj : i = j
    · subst hj
      by_cases hl : i < c.env.length
      · rw [List.getElem?_set_self hl] at q
        cases q
        refine ⟨v, ?_, .inr ⟨hi, h⟩⟩
        show (c.σ.set i (some v))[i]? = _
        rw [List.getElem?_set_self (by rw [← R.len]; exact hl)]
      · rw [List.getElem?_eq_none (by simpa using hl)] at q; cases q
    · rw [List.getElem?_set_ne hj] at q
      obtain ⟨u, h1, h2⟩ := R.val j e q
      refine ⟨u, ?_, h2⟩
      show (c.σ.set i (some v))[j]? = _
      rw [List.getElem?_set_ne hj]
      exact h1
  tabs := R.tabs
/-- the slots are others, the rest is as it was -/
def SameSt (c : Fr) (sl : List Nat) (env : Env) (σ : L2.St) : Prop := env.length = c.env.length ∧ σ.length = c.σ.length ∧ ∀ i, i ∉ sl → env[i]? = c.env[i]? ∧ σ[i]? = c.σ[i]?
mutual
theorem bind_ok : ∀ {t : T} {c : Fr} {d : D} {v : V} {env' : Env} {Q : L2.St → Hp → Prop}, Rel g c w H → c.rep g H d v → bindT t d c.env = some env' → (∀ i ∈ t.slots, i ∉ c.Own.map (·.1)) →
    (∀ σ', Rel g (c.to env' σ') w H → SameSt c t.slots env' σ' → Q σ' H) → readT g.K t v c.σ H Q
  | .nm i, c, d, v, env', Q, R, h, e, ho, q => by
    have e : some (c.env.set i (some d)) = some env' := e
    cases e
    refine q _ (R.setS h (ho i (by simp [T.slots]))) ⟨by simp, by simp, fun j hj => ?_⟩
    have : i ≠ j := fun z => hj (by simp [T.slots, z])
    exact ⟨List.getElem?_set_ne this, List.getElem?_set_ne this⟩
  | .tp ts, c, d, v, env', Q, R, h, e, ho, q => by
    cases d with
    | tup xs =>
      obtain ⟨a, vs, rfl, h1, h2⟩ := h
      have e : bindTs ts xs c.env = some env' := e
      have hl := binds_len e
      exact ⟨a, vs, rfl, h1.sq, by rw [← h2.length, hl], binds_ok R h2 e ho q⟩
    | _ => cases e
theorem binds_ok : ∀ {ts : Ts} {c : Fr} {ds : List D} {vs : List V} {env' : Env} {Q : L2.St → Hp → Prop}, Rel g c w H → c.reps g H ds vs → bindTs ts ds c.env = some env' → (∀ i ∈ ts.slots, i ∉ c.Own.map (·.1)) →
    (∀ σ', Rel g (c.to env' σ') w H → SameSt c ts.slots env' σ' → Q σ' H) → readTs g.K ts vs c.σ H Q
  | .nil, c, ds, vs, env', Q, R, h, e, ho, q => by
    cases ds with
    | nil =>
      cases h
      have e : some c.env = some env' := e
      cases e
      exact ⟨rfl, q _ R ⟨rfl, rfl, fun _ _ => ⟨rfl, rfl⟩⟩⟩
    | cons _ _ => cases e
  | .cons t ts, c, ds, vs, env', Q, R, h, e, ho, q => by
    cases ds with
    | nil => cases e
    | cons d ds =>
      obtain ⟨v, ws, rfl, h2, h3⟩ := h
      have e : (match bindT t d c.env with | some e => bindTs ts ds e | none => none) = some env' := e
      split at e
      · rename_i env1 e1
        refine ⟨v, ws, rfl, bind_ok R h2 e1 (fun i hi => ho i (List.mem_append_left _ hi)) fun σ1 R1 s1 => ?_⟩
        exact binds_ok (c := c.to env1 σ1) R1 h3 e (fun i hi => ho i (List.mem_append_right _ hi)) fun σ2 R2 s2 => q σ2 R2
          ⟨s2.1.trans s1.1, s2.2.1.trans s1.2.1, fun i hi => ⟨(s2.2.2 i fun z => hi (List.mem_append_right _ z)).1.trans (s1.2.2 i fun z => hi (List.mem_append_left _ z)).1, (s2.2.2 i fun z => hi (List.mem_append_right _ z)).2.trans (s1.2.2 i fun z => hi (List.mem_append_left _ z)).2⟩⟩
      · cases e
theorem binds_len : ∀ {ts : Ts} {ds : List D} {env env' : Env}, bindTs ts ds env = some env' → ds.length = ts.len
  | .nil, ds, env, env', e => by
    cases ds with
    | nil => rfl
    | cons _ _ => cases e
  | .cons t ts, ds, env, env', e => by
    cases ds with
    | nil => cases e
    | cons d ds =>
      have e : (match bindT t d env with | some e => bindTs ts ds e | none => none) = some env' := e
      split at e
      · simp [Ts.len, binds_len e]
      · cases e
end
/-- a state in which the block's own slots are forgotten -/
theorem wipe_get : ∀ (vs : List Nat) (σ : L2.St) (i : Nat), i ∉ vs → (wipe σ vs)[i]? = σ[i]?
  | [], _, _, _ => rfl
  | v :: vs, σ, i, h => by
    unfold wipe
    rw [List.getElem?_set_ne (fun z => h (by simp [z])), wipe_get vs σ i fun z => h (List.mem_cons_of_mem _ z)]
theorem wipe_same : ∀ (vs : List Nat) (σ τ : L2.St), σ.length = τ.length → (∀ i, i ∉ vs → τ[i]? = σ[i]?) → wipe τ vs = wipe σ vs := fun vs σ τ hl h => by
  refine List.ext_getElem? fun i => ?_
  by_cases hi : i ∈ vs
  · have f : ∀ (vs : List Nat) (σ : L2.St), i ∈ vs → (wipe σ vs)[i]? = if i < σ.length then some none else none := by
      intro vs
      induction vs with
      | nil => intro σ h; cases h
      | cons v vs ih =>
        intro σ h
        unfold wipe
        by_cases hv : v = i
        · subst hv
          by_cases hl : v < σ.length
          · rw [List.getElem?_set_self (by rw [wipe_length]; exact hl), if_pos hl]
          · rw [List.getElem?_eq_none (by rw [List.length_set, wipe_length]; omega), if_neg hl]
        · rw [List.getElem?_set_ne hv]
          exact ih σ (by rcases List.mem_cons.mp h with e | e; exact absurd e.symm hv; exact e)
    rw [f vs τ hi, f vs σ hi, hl]
  · rw [wipe_get vs τ i hi, wipe_get vs σ i hi]
    exact h i hi
/-- two slot lists that agree but at some places -/
def AgO (vs : List Nat) (e1 e2 : Env) : Prop := e1.length = e2.length ∧ ∀ i, i ∉ vs → e1[i]? = e2[i]?
mutual
theorem bind_ag : ∀ {t : T} {d : D} {e1 e2 r1 : Env} {vs : List Nat}, bindT t d e1 = some r1 → AgO vs e1 e2 → ∃ r2, bindT t d e2 = some r2 ∧ AgO (vs.filter fun i => !t.slots.contains i) r1 r2
  | .nm i, d, e1, e2, r1, vs, h, a => by
    have h : some (e1.set i (some d)) = some r1 := h
    cases h
    refine ⟨e2.set i (some d), rfl, by simp [a.1], fun j hj => ?_⟩
    by_cases hij : i = j
    · subst hij
      by_cases hl : i < e1.length
      · rw [List.getElem?_set_self hl, List.getElem?_set_self (by rw [← a.1]; exact hl)]
      · rw [List.getElem?_eq_none (by simpa using hl), List.getElem?_eq_none (by rw [List.length_set, ← a.1]; omega)]
    · rw [List.getElem?_set_ne hij, List.getElem?_set_ne hij]
      refine a.2 j fun z => hj (List.mem_filter.mpr ⟨z, ?_⟩)
      simp [T.slots]
      exact fun z => hij z.symm
  | .tp ts, d, e1, e2, r1, vs, h, a => by
    cases d with
    | tup xs => exact binds_ag (ts := ts) (ds := xs) h a
    | _ => cases h
theorem binds_ag : ∀ {ts : Ts} {ds : List D} {e1 e2 r1 : Env} {vs : List Nat}, bindTs ts ds e1 = some r1 → AgO vs e1 e2 → ∃ r2, bindTs ts ds e2 = some r2 ∧ AgO (vs.filter fun i => !ts.slots.contains i) r1 r2
  | .nil, ds, e1, e2, r1, vs, h, a => by
    cases ds with
    | nil =>
      have h : some e1 = some r1 := h
      cases h
      exact ⟨e2, rfl, a.1, fun i hi => a.2 i fun z => hi (List.mem_filter.mpr ⟨z, rfl⟩)⟩
    | cons _ _ => cases h
  | .cons t ts, ds, e1, e2, r1, vs, h, a => by
    cases ds with
    | nil => cases h
    | cons d ds =>
      have h : (match bindT t d e1 with | some e => bindTs ts ds e | none => none) = some r1 := h
      split at h
      · rename_i m1 h1
        obtain ⟨m2, h2, a2⟩ := bind_ag h1 a
        obtain ⟨r2, h3, a3⟩ := binds_ag h a2
        refine ⟨r2, ?_, a3.1, fun i hi => a3.2 i fun z => hi ?_⟩
        · show (match bindT t d e2 with | some e => bindTs ts ds e | none => none) = some r2
          rw [h2]; exact h3
        · rw [List.filter_filter] at z
          obtain ⟨z1, z2⟩ := List.mem_filter.mp z
          rw [Bool.and_eq_true] at z2
          refine List.mem_filter.mpr ⟨z1, ?_⟩
          simp only [Ts.slots, List.contains_append, Bool.not_or, Bool.and_eq_true]
          exact ⟨z2.2, z2.1⟩
      · cases h
end
/-- the slots forgotten, in the values' list -/
def wipeE (env : Env) : List Nat → Env
  | [] => env
  | v :: vs => (wipeE env vs).set v none
theorem wipeE_length (env : Env) : ∀ vs : List Nat, (wipeE env vs).length = env.length
  | [] => rfl
  | v :: vs => by unfold wipeE; rw [List.length_set, wipeE_length env vs]
theorem wipeE_get : ∀ (vs : List Nat) (env : Env) (i : Nat), i ∉ vs → (wipeE env vs)[i]? = env[i]?
  | [], _, _, _ => rfl
  | v :: vs, env, i, h => by
    unfold wipeE
    rw [List.getElem?_set_ne (fun z => h (by simp [z])), wipeE_get vs env i fun z => h (List.mem_cons_of_mem _ z)]
theorem wipeE_none : ∀ (vs : List Nat) (env : Env) (i : Nat) (d : D), i ∈ vs → (wipeE env vs)[i]? ≠ some (some d)
  | [], _, _, _, h => by cases h
  | v :: vs, env, i, d, h => by
    unfold wipeE
    by_cases hv : v = i
    · subst hv
      intro z
      by_cases hl : v < (wipeE env vs).length
      · rw [List.getElem?_set_self hl] at z; cases z
      · rw [List.getElem?_eq_none (by simpa using hl)] at z; cases z
    · rw [List.getElem?_set_ne hv]
      exact wipeE_none vs env i d (by rcases List.mem_cons.mp h with e | e; exact absurd e.symm hv; exact e)
theorem Rel.wipe (R : Rel g c w H) (vs : List Nat) : Rel g (c.to (wipeE c.env vs) (L2.wipe c.σ vs)) w H where
  len := by rw [wipeE_length, wipe_length]; exact R.len
  ground := R.ground
  lists := R.lists
  cupB := R.cupB
  new := R.new
  cupOk := R.cupOk
  ndS := R.ndS
  ndA := R.ndA
  val := fun i d e => by
    by_cases hi : i ∈ vs
    · exact absurd e (wipeE_none vs c.env i d hi)
    · have e : (wipeE c.env vs)[i]? = some (some d) := e
      rw [wipeE_get vs c.env i hi] at e
      obtain ⟨v, h1, h2⟩ := R.val i d e
      exact ⟨v, by show (L2.wipe c.σ vs)[i]? = _; rw [wipe_get vs c.σ i hi]; exact h1, h2⟩
  tabs := R.tabs
/-- the body of a block starts: the own slots hold nothing on either side -/
theorem Rel.wiped (R : Rel g c w H) {d : D} {v : V} {t : T} {env' : Env} (ho : ∀ i ∈ t.slots, i ∉ c.Own.map (·.1)) (h : c.rep g H d v) (e : bindT t d c.env = some env') {Q : L2.St → Hp → Prop}
    (q : ∀ σ', Rel g (c.to env' σ') w H → L2.wipe σ' t.slots = L2.wipe c.σ t.slots → Q σ' H) : readT g.K t v (L2.wipe c.σ t.slots) H Q := by
  obtain ⟨r2, h2, a2⟩ := bind_ag (e2 := wipeE c.env t.slots) (vs := t.slots) e ⟨(wipeE_length _ _).symm, fun i hi => (wipeE_get _ _ _ hi).symm⟩
  have e2 : r2 = env' := by
    refine List.ext_getElem? fun i => (a2.2 i fun z => ?_).symm
    obtain ⟨z1, z2⟩ := List.mem_filter.mp z
    have : t.slots.contains i = true := by simpa using z1
    rw [this] at z2; cases z2
  subst e2
  refine bind_ok (R.wipe t.slots) (c := c.to (wipeE c.env t.slots) (L2.wipe c.σ t.slots)) h h2 ho fun σ' R' s' => q σ' R' ?_
  refine wipe_same t.slots c.σ σ' ?_ fun i hi => ?_
  · rw [s'.2.1]; exact (wipe_length _ _).symm
  · exact (s'.2.2 i hi).2.trans (wipe_get _ _ _ hi)
end
end VI
end
section
set_option maxRecDepth 100000
namespace VI
open PySem PySem.Spec PyProof.Rows L2
/-! ### what a loop walks -/
/-- a turn's new tuple, or nothing new -/
def Upd1 (H H' : Hp) : Prop := H' = H ∨ ∃ T ts, H T = none ∧ H' = upd H T (.tup ts)
theorem Upd1.rel {g : Gb} {c : Fr} {w : List D} {H H' : Hp} (u : Upd1 H H') (R : Rel g c w H) : Rel g c w H' ∧ Keep c.cup H H' := by
  rcases u with rfl | ⟨T, ts, hT, rfl⟩
  · exact ⟨R, Keep.refl⟩
  · exact ⟨R.add hT, Keep.new hT⟩
/-- what is given at a turn stands for the item, in every later state -/
def YOk (g : Gb) (c : Fr) (H : Hp) (xs : List D) (i : Nat) (H' : Hp) (v : V) (H'' : Hp) : Prop :=
  Upd1 H' H'' ∧ ∀ c' : Fr, c'.cup = c.cup → (∀ a, c'.bad a → c.bad a ∨ NoneT H a) → (∀ a, c'.bad a → ∃ xs, H' a = some (.lst xs)) → ∀ d, xs[i]? = some d → c'.rep g H'' d v
/-- J walks xs, while the heaps stay so -/
def ItOk (g : Gb) (c : Fr) (H : Hp) (xs : List D) (J : It) : Prop :=
  ∃ (G : Hp → Prop) (Y : Nat → Hp → V → Hp → Prop), Walk J xs.length G Y ∧ (∀ H', Agr c.bad H H' → G H') ∧ ∀ i H' v H'', Agr c.bad H H' → Y i H' v H'' → YOk g c H xs i H' v H''
/-- the same, also of a list that a name alone knows, while it is kept -/
def ItOkW (g : Gb) (c : Fr) (H : Hp) (xs : List D) (J : It) : Prop :=
  ∃ (G : Hp → Prop) (Y : Nat → Hp → V → Hp → Prop), Walk J xs.length G Y ∧ (∀ H', Keep c.cup H H' → G H') ∧ ∀ i H' v H'', Keep c.cup H H' → Y i H' v H'' → YOk g c H xs i H' v H''
def ItS (s : Bool) (g : Gb) (c : Fr) (H : Hp) (xs : List D) (J : It) : Prop := if s = true then ItOk g c H xs J else ItOkW g c H xs J
def tI (S : Sg) (s : Bool) (f : Env → M (List D)) : TI := fun σ H R => ∃ c w, S.at c σ ∧ Rel S.g c w H ∧ Wp S.g c S.EX (f c.env) (ItS s S.g c) w H fun J H' => R J H'
theorem PI.weak {X : Cx} {tg x : Expr} {t t' : TI} (h : PI X tg x t) (i : ∀ σ H Q, t' σ H Q → t σ H Q) : PI X tg x t' := ⟨fun pins s σ H Q I q => h.run pins s σ H Q I (i _ _ _ q)⟩
section
variable {g : Gb} {c : Fr} {w : List D} {H : Hp} {s : Bool}
/-- items that stand in xs, given as they are -/
theorem yok_plain {xs : List D} {vs : List V} {i : Nat} {H' H'' : Hp} {v : V} (h : c.reps g H xs vs) (k : Agr c.bad H H') (y : YAt vs i H' v H'') : YOk g c H xs i H' v H'' := by
  obtain ⟨rfl, y⟩ := y
  refine ⟨.inl rfl, fun c' e1 e2 e3 d e => ?_⟩
  obtain ⟨u, h1, h2⟩ := h.get e
  rw [y] at h1; cases h1
  exact Rep.mono k e2 (fun a z => by rw [e1]; exact z) h2
theorem it_plain {J : It} {xs : List D} {vs : List V} {G : Hp → Prop} (R : Rel g c w H) (W : Walk J vs.length G (YAt vs)) (h : c.reps g H xs vs) (hs : s = true → ∀ H', Agr c.bad H H' → G H') (hw : ∀ H', Keep c.cup H H' → G H') : ItS s g c H xs J := by
  cases s with
  | true => exact ⟨G, YAt vs, by rw [h.length]; exact W, hs rfl, fun i H' v H'' k y => yok_plain h k y⟩
  | false => exact ⟨G, YAt vs, by rw [h.length]; exact W, hw, fun i H' v H'' k y => yok_plain h (R.agr k) y⟩
end
section
variable {X : Cx} {S : Sg} {s : Bool} {a b c' e tg : Expr} {es : List Expr} {fa fb fc fe : Env → M D} {fs : Env → M (List D)} {pos p p2 : Pos}
/-- a list or a tuple -/
def iSeq (K : PySem.W.Frag) (tl : TE) : TI := fun σ H R => tl σ H fun x H1 => ∃ a, x = .ref a ∧ (((∃ xs, SqL K H1 a xs) ∧ R (Itl K a) H1) ∨ ((∃ xs, SqT K H1 a xs) ∧ R (Itt K a) H1))
theorem pi_seq {l : Expr} {tl : TE} (hl : PE X l tl) : PI X tg l (iSeq X.K tl) := by
  refine ⟨fun pins s σ H R I h => ?_⟩
  refine thn (hl.run pins s σ H _ I h) fun v s1 ⟨x, H1, I1, r1, q1⟩ => ?_
  obtain ⟨a, e, q⟩ := q1
  subst e
  cases r1
  rcases q with ⟨⟨xs, hq⟩, q⟩ | ⟨⟨xs, hq⟩, q⟩
  · obtain ⟨its, rv, p, hz⟩ := I1.list hq
    refine wpAny_pyIter_list p.isList ?_
    refine ⟨s1.heap.objs.size, [s1.heap.objs.size], _, _, H1, rfl, I1.kept (t' := s1.toks) fun b o e => Heap.get?_push_of_some _ e, turn_list a _, ⟨_, Heap.get?_push_size _ rfl, rfl, rfl⟩, fun b hb => ?_, q⟩
    have e : b = s1.heap.objs.size := by simpa using hb
    subst e
    exact I1.fpOk (Nat.le_refl _) (I1.hok.fresh (Nat.le_refl _))
  · obtain ⟨its, rv, p, hz⟩ := I1.tuple hq
    refine wpAny_pyIter_tuple (show s1.heap.IsTuple a its.toArray from p) ?_
    refine ⟨s1.heap.objs.size, [s1.heap.objs.size], _, _, H1, rfl, I1.kept (t' := s1.toks) fun b o e => Heap.get?_push_of_some _ e, turn_tuple a _, ⟨_, Heap.get?_push_size _ rfl, rfl, rfl⟩, fun b hb => ?_, q⟩
    have e : b = s1.heap.objs.size := by simpa using hb
    subst e
    exact I1.fpOk (Nat.le_refl _) (I1.hok.fresh (Nat.le_refl _))
theorem si_seq (hK : X.K = S.g.K) (ha : PE X a (tE S s fa)) : PI X tg a (tI S s fun env => M.bind (fa env) walkD) :=
  PI.weak (pi_seq ha) fun σ H R ⟨c, w, at_, Rl, q⟩ => tE_mono (one at_ Rl q) fun x H1 ⟨w1, dx, R1, k1, h1, q1⟩ => by
    obtain ⟨xs, e, q2⟩ := q1.lift
    cases dx with
    | tup ds =>
      cases e
      obtain ⟨a, vs, rfl, h2, h3⟩ := repS_tup (Fr.repS.w R1 h1)
      refine ⟨a, rfl, .inr ⟨⟨vs, by rw [hK]; exact h2.sq⟩, q2 H1 _ R1 Keep.refl (it_plain R1 walk_tup h3 (fun _ H' k => ?_) fun H' k => ?_)⟩⟩
      · rw [hK]; exact (k.tupAt (fun _ => .inl) h2).sq
      · rw [hK]; exact ((R1.agr k).tupAt (fun _ => .inl) h2).sq
    | lst ds =>
      cases e
      obtain ⟨a, vs, rfl, h2, h3⟩ := repS_lst (Fr.repS.w R1 h1)
      refine ⟨a, rfl, .inl ⟨⟨vs, SqL.of h2⟩, q2 H1 _ R1 Keep.refl (it_plain R1 walk_list h3 (fun hs H' k => ?_) fun H' k => ?_)⟩⟩
      · subst hs
        obtain ⟨a', vs', h4, h5, h6, _⟩ := h1
        cases h4
        rw [h2] at h5
        exact SqL.of (k _ _ h2 h6 noTbl_lst)
      · exact SqL.of (k.k _ _ h2 ((Fr.repS.w R1 h1).2 a _ rfl rfl) noTbl_lst)
    | _ => cases e
/-- numbers in a row -/
theorem it_nums {g : Gb} {c : Fr} {H : Hp} {J : It} {n : Nat} {f : Nat → Int} (W : Walk J n (fun _ => True) (YFn fun i => .int (f i))) : ItS s g c H ((List.range n).map fun i => D.int (f i)) J := by
  have key : ∀ (i : Nat) (H' : Hp) (v : V) (H'' : Hp), YFn (fun i => V.int (f i)) i H' v H'' → YOk g c H ((List.range n).map fun i => D.int (f i)) i H' v H'' := fun i H' v H'' y => by
    obtain ⟨rfl, rfl⟩ := y
    refine ⟨.inl rfl, fun c' _ _ _ d e => ?_⟩
    rw [List.getElem?_map, Option.map_eq_some_iff] at e
    obtain ⟨j, e1, rfl⟩ := e
    have e1 := List.getElem?_eq_some_iff.mp e1
    obtain ⟨hj, e1⟩ := e1
    simp at e1
    subst e1
    exact rfl
  cases s with
  | true => exact ⟨_, _, by simpa using W, fun _ _ => trivial, fun i H' v H'' _ y => key i H' v H'' y⟩
  | false => exact ⟨_, _, by simpa using W, fun _ _ => trivial, fun i H' v H'' _ y => key i H' v H'' y⟩
def eRange (fs : Env → M (List D)) : Env → M D := fun env => M.bind (fs env) fun xs => liftO (biD .range xs)
theorem rangeD_up {lo hi : Int} {ds : List D} (h : rangeD lo hi 1 = some ds) : small lo = true ∧ small hi = true ∧ ds = (List.range (hi - lo).toNat).map fun (i : Nat) => D.int (lo + (i : Int)) := by
  unfold rangeD at h
  split at h
  · cases h
  · rename_i q
    simp only [Bool.not_eq_true, Bool.not_eq_false', Bool.and_eq_true] at q
    simp only [if_true] at h
    exact ⟨q.1.1, q.1.2, (Option.some.inj h).symm⟩
theorem rangeD_down {lo hi c : Int} {ds : List D} (h : rangeD lo hi c = some ds) (hc : c ≠ 1) : small lo = true ∧ small hi = true ∧ c = -1 ∧ ds = (List.range (lo - hi).toNat).map fun (i : Nat) => D.int (lo - (i : Int)) := by
  unfold rangeD at h
  split at h
  · cases h
  · rename_i q
    simp only [Bool.not_eq_true, Bool.not_eq_false', Bool.and_eq_true, decide_eq_true_eq] at q
    first | rw [if_neg hc] at h | skip
    exact ⟨q.1.1, q.1.2, by omega, (Option.some.inj h).symm⟩
theorem walk_bind (f : Env → M (List D)) (env : Env) : M.bind (eRange f env) walkD = M.bind (f env) fun xs => liftO ((biD .range xs).bind isSeq) := by
  unfold eRange
  rw [M.bind_assoc]
  congr 1; funext xs
  cases biD .range xs <;> rfl
theorem si_range1 (hg : Gl X "range") (hm : X.mg "range" = none) (ha : PA X [a] (tEs S false fs)) (hl : Len fs 1) (hs : starEach [a] X.env = [(false, eval a X.env)]) : PI X tg (.Call (.Name "range" p) [a] [] pos) (tI S s fun env => M.bind (eRange fs env) walkD) :=
  PI.weak (pi_range1 hg hm ha hs) fun σ H R ⟨c, w, at_, Rl, q⟩ => by
    simp only [walk_bind] at q
    refine tEs_mono (oneA at_ Rl q) fun vs H1 ⟨w1, ds, R1, k1, h1, q1, e1⟩ => ?_
    obtain ⟨xs, e, q2⟩ := q1.lift
    obtain ⟨x, e2, e3⟩ := Option.bind_eq_some_iff.mp e
    unfold biD at e2
    split at e2 <;> first | contradiction | skip
    · rename_i n _
      obtain ⟨x', rfl, hx⟩ := reps1 h1
      cases repS_int hx
      obtain ⟨ys, e4, rfl⟩ := Option.map_eq_some_iff.mp e2
      cases e3
      obtain ⟨_, h3, rfl⟩ := rangeD_up e4
      obtain ⟨h4, h5⟩ := small_iff h3
      refine ⟨n, rfl, h4, h5, q2 H1 _ R1 Keep.refl ?_⟩
      rw [Int.sub_zero]
      exact it_nums walk_range
    · have := hl _ _ _ _ e1; simp at this
    · have := hl _ _ _ _ e1; simp at this
theorem si_range2 (hg : Gl X "range") (hm : X.mg "range" = none) (ha : PA X [a, b] (tEs S false fs)) (hl : Len fs 2) (hs : starEach [a, b] X.env = [(false, eval a X.env), (false, eval b X.env)]) (hs2 : starEach [b] X.env = [(false, eval b X.env)]) :
    PI X tg (.Call (.Name "range" p) [a, b] [] pos) (tI S s fun env => M.bind (eRange fs env) walkD) :=
  PI.weak (pi_range2 hg hm ha hs hs2) fun σ H R ⟨c, w, at_, Rl, q⟩ => by
    simp only [walk_bind] at q
    refine tEs_mono (oneA at_ Rl q) fun vs H1 ⟨w1, ds, R1, k1, h1, q1, e1⟩ => ?_
    obtain ⟨xs, e, q2⟩ := q1.lift
    obtain ⟨x, e2, e3⟩ := Option.bind_eq_some_iff.mp e
    unfold biD at e2
    split at e2 <;> first | contradiction | skip
    · have := hl _ _ _ _ e1; simp at this
    · rename_i lo hi _
      obtain ⟨x', y', rfl, hx, hy⟩ := reps2 h1
      cases repS_int hx; cases repS_int hy
      obtain ⟨ys, e4, rfl⟩ := Option.map_eq_some_iff.mp e2
      cases e3
      obtain ⟨h2, h3, rfl⟩ := rangeD_up e4
      obtain ⟨h4, h5⟩ := small_iff h3
      obtain ⟨h6, h7⟩ := small_iff h2
      exact ⟨lo, hi, rfl, ⟨h6, h7, h4, h5⟩, q2 H1 _ R1 Keep.refl (it_nums walk_range)⟩
    · have := hl _ _ _ _ e1; simp at this
theorem si_range3 (hg : Gl X "range") (hm : X.mg "range" = none) (ha : PA X [a, b, c'] (tEs S false fs)) (hl : Len fs 3) (hs : starEach [a, b, c'] X.env = (false, eval a X.env) :: starEach [b, c'] X.env) (hpl : (backTo pos (starEach [b, c'] X.env)).any (·.1) = false) :
    PI X tg (.Call (.Name "range" p) [a, b, c'] [] pos) (tI S s fun env => M.bind (eRange fs env) walkD) :=
  PI.weak (pi_range3 hg hm ha hs hpl) fun σ H R ⟨c, w, at_, Rl, q⟩ => by
    simp only [walk_bind] at q
    refine tEs_mono (oneA at_ Rl q) fun vs H1 ⟨w1, ds, R1, k1, h1, q1, e1⟩ => ?_
    obtain ⟨xs, e, q2⟩ := q1.lift
    obtain ⟨x, e2, e3⟩ := Option.bind_eq_some_iff.mp e
    unfold biD at e2
    split at e2 <;> first | contradiction | skip
    · have := hl _ _ _ _ e1; simp at this
    · have := hl _ _ _ _ e1; simp at this
    · rename_i lo hi st _
      obtain ⟨x', ws, rfl, hx, h1⟩ := h1
      obtain ⟨y', z', rfl, hy, hz⟩ := reps2 h1
      cases repS_int hx; cases repS_int hy; cases repS_int hz
      obtain ⟨ys, e4, rfl⟩ := Option.map_eq_some_iff.mp e2
      cases e3
      by_cases hst : st = 1
      · subst hst
        obtain ⟨h2, h3, rfl⟩ := rangeD_up e4
        obtain ⟨h4, h5⟩ := small_iff h3
        obtain ⟨h6, h7⟩ := small_iff h2
        refine ⟨lo, hi, 1, (hi - lo).toNat, rfl, ⟨by decide, by decide, small_one (by omega) (by omega) (by omega) (by omega), by rw [rangeSize_one]; split <;> omega⟩, q2 H1 _ R1 Keep.refl ?_⟩
        have W := walk_rangeC (lo := lo) (c := 1) (n := (hi - lo).toNat)
        simp only [Int.mul_one] at W
        exact it_nums W
      · obtain ⟨h2, h3, rfl, rfl⟩ := rangeD_down e4 hst
        obtain ⟨h4, h5⟩ := small_iff h3
        obtain ⟨h6, h7⟩ := small_iff h2
        refine ⟨lo, hi, -1, (lo - hi).toNat, rfl, RgC.neg h6 h7 h4 h5, q2 H1 _ R1 Keep.refl ?_⟩
        have W := walk_rangeC (lo := lo) (c := -1) (n := (lo - hi).toNat)
        have e6 : ∀ i : Nat, lo + (i : Int) * -1 = lo - (i : Int) := fun i => by omega
        simp only [e6] at W
        exact it_nums W

/-! ### comprehensions -/
/-- nothing leaves a block -/
abbrev Sg.in (S : Sg) : Sg := { S with EX := fun _ _ _ => False }
/-- the state within a block: the new list at p is nobody's -/
abbrev Fr.in (c : Fr) (p : Addr) (env : Env) (σ : L2.St) : Fr := { c with b0 := fun a => c.b0 a ∨ a = p, env := env, σ := σ }
/-- a step in a block; V: what is wanted of the whole -/
theorem Wp.inner {α β γ : Type} {g : Gb} {w : List D} {H : Hp} {m : M α} {f : α → M γ} {s : Hp → α → β → Prop} {V : R γ → Prop} {c' : Fr} (hno : ¬ V .no) (h : V (M.bind m.calm f w)) :
    Wp g c' (fun _ _ _ => False) m s w H fun b H2 => ∃ a w1, Rel g c' w1 H2 ∧ Keep c'.cup H H2 ∧ s H2 a b ∧ V (f a w1) := by
  unfold M.bind M.calm at h
  unfold Wp
  cases e : m w with
  | ok a w1 =>
    rw [e] at h
    exact fun H2 b R2 k q => ⟨a, w1, R2, k, q, h⟩
  | ex k w1 => rw [e] at h; exact (hno h).elim
  | no => rw [e] at h; exact (hno h).elim
theorem bad_in {c : Fr} {p a : Addr} {env : Env} {σ : L2.St} : (c.in p env σ).bad a ↔ c.bad a ∨ a = p := by
  unfold Fr.bad
  constructor
  · rintro ((h | h) | h)
    · exact .inl (.inl h)
    · exact .inr h
    · exact .inl (.inr h)
  · rintro ((h | h) | h)
    · exact .inl (.inl h)
    · exact .inr h
    · exact .inl (.inr h)
section
variable {g : Gb} {c : Fr} {w : List D} {H H1 : Hp} {p : Addr}
/-- into a block -/
theorem Rel.into (R : Rel g c w H) (hp : H p = none) (zs : List V) : Rel g (c.in p c.env c.σ) w (upd H p (.lst zs)) := by
  have R2 := R.add (o := .lst zs) hp
  have A : Agr c.bad H (upd H p (.lst zs)) := R.agr (Keep.new hp)
  have hb : ∀ a, (c.in p c.env c.σ).bad a → c.bad a ∨ NoneT H a := fun a z => by
    rcases bad_in.mp z with z | z
    · exact .inl z
    · exact .inr (by rw [z]; exact NoneT.of hp)
  exact {
    len := R.len
    ground := R2.ground
    lists := fun a z => by
      rcases bad_in.mp z with z | z
      · exact R2.lists a z
      · exact ⟨zs, by rw [z, upd_same]⟩
    cupB := fun a z => .inl (R.cupB a z)
    new := fun q hq => ⟨(R.new q hq).1, fun z => z.elim (R.new q hq).2 fun z => by
      obtain ⟨xs, e⟩ := R.lists q.2 (.inr (List.mem_map.mpr ⟨q, hq, rfl⟩))
      rw [z, hp] at e; cases e⟩
    cupOk := fun a z => by
      obtain ⟨vs, e, q⟩ := R.cupOk a z
      exact ⟨vs, by rw [upd_ne (ne_of_none e hp)]; exact e, Reps.mono A hb (fun _ => id) q⟩
    ndS := R.ndS
    ndA := R.ndA
    val := fun i d e => by
      obtain ⟨v, h1, h2⟩ := R.val i d e
      refine ⟨v, h1, ?_⟩
      rcases h2 with ⟨a, h3, h4, ds, vs, h5, h6, h7⟩ | ⟨h3, h4⟩
      · exact .inl ⟨a, h3, h4, ds, vs, h5, by rw [upd_ne (ne_of_none h6 hp)]; exact h6, Reps.mono A hb (fun _ => id) h7⟩
      · exact .inr ⟨h3, Rep.mono A hb (fun _ => id) h4⟩
    tabs := R2.tabs }
/-- out of a block -/
theorem Rel.outof {env : Env} {σ : L2.St} (R : Rel g (c.in p env σ) w H) (R0 : Rel g c w H1 ∨ ∃ w', Rel g c w' H1) (k : Keep c.cup H1 H) : Rel g c w H := by
  obtain ⟨w', R0⟩ : ∃ w', Rel g c w' H1 := R0.elim (fun h => ⟨_, h⟩) id
  refine R0.after k (fun a z => ?_) R.tabs
  obtain ⟨vs, e, q⟩ := R.cupOk a z
  exact ⟨vs, e, Reps.mono (H := H) (H' := H) (fun _ _ h _ _ => h) (fun a z => .inl (bad_in.mpr (.inl z))) (fun _ => id) q⟩
theorem tabs_upd {T : List (Addr × Str)} {H : Hp} {p : Addr} {ys : List V} {o : HO} (t : LamX.Tabs T H) (hp : H p = some (.lst ys)) : LamX.Tabs T (upd H p o) := fun q hq => by
  obtain ⟨ps, h1, h2, h3⟩ := t q hq
  refine ⟨ps, by rw [upd_ne (ne_of h1 hp (fun z => nomatch z))]; exact h1, h2, fun pos cv hc => ?_⟩
  obtain ⟨c, e1, e2⟩ := h3 pos cv hc
  exact ⟨c, e1, by rw [upd_ne (ne_of e2 hp (fun z => by unfold LamX.CodeO at z; cases z))]; exact e2⟩
/-- a list that nobody else knows is written -/
theorem Rel.mutate (R : Rel g c w H) {o : HO} (hb : c.b0 p) (hc : c.cup ≠ some p) (ho : ∃ xs, o = .lst xs) (hn : ∀ u, c.H0 p = some u → noTbl u → False) : Rel g c w (upd H p o) := by
  obtain ⟨xs, rfl⟩ := ho
  have A : Agr c.bad H (upd H p (.lst xs)) := fun b u e nb _ => by rw [upd_ne (fun z => nb (by rw [z]; exact .inl hb))]; exact e
  obtain ⟨ys, hp⟩ := R.lists p (.inl hb)
  exact {
    len := R.len
    ground := ⟨fun b u e nb nt => by rw [upd_ne (fun z => hn u (by rw [← z]; exact e) nt)]; exact R.ground.k b u e nb nt, fun b e => by
      by_cases z : b = p
      · exact (e _ (by rw [z, upd_same]) noTbl_lst).elim
      · exact R.ground.al b fun u eu => e u (by rw [upd_ne z]; exact eu)⟩
    lists := fun a z => by
      by_cases e : a = p
      · exact ⟨xs, by rw [e, upd_same]⟩
      · rw [upd_ne e]; exact R.lists a z
    cupB := R.cupB
    new := R.new
    cupOk := fun a z => by
      obtain ⟨vs, e, q⟩ := R.cupOk a z
      exact ⟨vs, by rw [upd_ne (fun y => hc (by rw [← y]; exact z))]; exact e, Reps.mono A (fun _ => .inl) (fun _ => id) q⟩
    ndS := R.ndS
    ndA := R.ndA
    val := fun i d e => by
      obtain ⟨v, h1, h2⟩ := R.val i d e
      refine ⟨v, h1, ?_⟩
      rcases h2 with ⟨a, h3, h4, ds, vs, h5, h6, h7⟩ | ⟨h3, h4⟩
      · exact .inl ⟨a, h3, h4, ds, vs, h5, by rw [upd_ne (fun z => (R.new _ h3).2 (by rw [z]; exact hb))]; exact h6, Reps.mono A (fun _ => .inl) (fun _ => id) h7⟩
      · exact .inr ⟨h3, Rep.mono A (fun _ => .inl) (fun _ => id) h4⟩
    tabs := tabs_upd R.tabs hp }
end
/-! #### the rules -/
theorem Keep.trans2 {cup : Option Addr} {H H1 : Hp} {p : Addr} {o : HO} (k : Keep cup H H1) (hp : H p = none) : Keep cup H (upd H1 p o) := ⟨fun b u e nb nt => by
  rw [upd_ne (ne_of_none e hp)]; exact k.k b u e nb nt, fun b e => by
  by_cases z : b = p
  · rw [z]; exact NoneT.of hp
  · exact k.al b fun u eu => e u (by rw [upd_ne z]; exact eu)⟩
theorem slots_own {S : Sg} {c : Fr} {σ : L2.St} (at_ : S.at c σ) {l : List Nat} (h : ∀ i ∈ l, i ∉ S.own) : ∀ i ∈ l, i ∉ c.Own.map (·.1) := fun i hi z => h i hi ((at_.2.2.2 i).mp z)
/-- a comprehension's loop, told once for all kinds; V: what is wanted of the run -/
theorem comp_loop {fit : Env → M (List D)} {t : T} {tt : TT} {te : TE} {f : Env → List D → M (List D)} {σ : L2.St} {H : Hp} {Q : VK} {c : Fr} {w : List D} {V : R D → Prop} (at_ : S.at c σ) (R : Rel S.g c w H) (hno : ¬ V .no)
    (hex : ∀ k w', V (.ex k w') → ∀ H', Rel S.g c w' H' → Keep c.cup H H' → S.EX (.ref (S.g.ca k)) none H')
    (hend : ∀ w1 H1 p w' H' ys vs, Rel S.g c w1 H1 → Keep c.cup H H1 → H1 p = none → V (.ok (.lst ys) w') → Rel S.g (c.in p c.env c.σ) w' H' → Keep c.cup H1 H' → H' p = some (.lst vs) → (c.in p c.env c.σ).reps S.g H' ys vs → Q (.ref p) H')
    (hstop : ∀ env, f env [] = M.pure [])
    (hstep : ∀ (w : List D) (H : Hp) (p : Addr) (x : D) (xs ys : List D) (v : L2.V) (Nx : Hp → Prop), Rel S.g (c.in p c.env c.σ) w H →
      V (M.bind (f c.env (x :: xs)) (fun zs => M.pure (.lst (ys ++ zs))) w) → (c.in p c.env c.σ).rep S.g H x v →
      (∀ w2 H2 y yv, Rel S.g (c.in p c.env c.σ) w2 H2 → Keep (c.in p c.env c.σ).cup H H2 → (c.in p c.env c.σ).rep S.g H2 y yv → V (M.bind (f c.env xs) (fun zs => M.pure (.lst ((ys ++ [y]) ++ zs))) w2) →
        ∃ acc, H2 p = some (.lst acc) ∧ acc.length < sizeLine ∧ Nx (upd H2 p (.lst (acc ++ [yv])))) →
      (∀ w2 H2, Rel S.g (c.in p c.env c.σ) w2 H2 → Keep (c.in p c.env c.σ).cup H H2 → V (M.bind (f c.env xs) (fun zs => M.pure (.lst (ys ++ zs))) w2) → Nx H2) →
      readT S.g.K t v (wipe c.σ t.slots) H fun σ2 H2 => wipe σ2 t.slots = wipe c.σ t.slots ∧ tt σ2 H2 fun b H3 => if b = true then te σ2 H3 fun y H4 => ∃ acc, H4 p = some (.lst acc) ∧ acc.length < sizeLine ∧ Nx (upd H4 p (.lst (acc ++ [y]))) else Nx H3)
    (q : V (M.bind (fit c.env) (fun xs => M.bind (few xs) fun _ => M.bind (f c.env xs) fun ys => M.pure (.lst ys)) w)) :
    tLc (tI S false fit) (readT S.g.K t) tt te t.slots σ H Q := by
  refine ⟨c, w, at_, R, ?_⟩
  have q : Wp S.g c S.EX (fit c.env) (ItS false S.g c) w H fun J H1 => ∃ xs w1, Rel S.g c w1 H1 ∧ Keep c.cup H H1 ∧ ItS false S.g c H1 xs J ∧ V ((M.bind (few xs) fun _ => M.bind (f c.env xs) fun ys => M.pure (.lst ys)) w1) := by
    unfold M.bind at q
    unfold Wp
    cases e : fit c.env w with
    | ok xs w1 => rw [e] at q; exact fun H1 J R1 k1 it => ⟨xs, w1, R1, k1, it, q⟩
    | ex k w1 => rw [e] at q; exact hex k w1 q
    | no => rw [e] at q; exact hno q
  refine q.mono fun J H1 ⟨xs, w1, R1, k1, it, q1⟩ p hp => ?_
  obtain ⟨G, Y, W, hG, hY⟩ := it
  have hfew : xs.length < line ∧ V (M.bind (f c.env xs) (fun ys => M.pure (.lst ys)) w1) := by
    unfold few at q1
    split at q1
    · rename_i hl
      exact ⟨hl, q1⟩
    · exact (hno q1).elim
  obtain ⟨hlen, q2⟩ := hfew
  have nbad : ¬ c.bad p := R1.fresh hp
  have hcup : c.cup ≠ some p := fun z => nbad (R1.badCup p z)
  have hH0 : ∀ u, c.H0 p = some u → noTbl u → False := fun u e nt => by
    have z := R1.ground.k p u e hcup nt
    rw [hp] at z; cases z
  have e0 := at_.1
  refine lc_it W (fun i H' => ∃ w' ys vs, Rel S.g (c.in p c.env c.σ) w' H' ∧ Keep c.cup H1 H' ∧ H' p = some (.lst vs) ∧ (c.in p c.env c.σ).reps S.g H' ys vs ∧ ys.length ≤ i ∧
    V (M.bind (f c.env (xs.drop i)) (fun zs => M.pure (.lst (ys ++ zs))) w')) ?_ ?_ ?_ ?_
  · exact ⟨w1, [], [], R1.into hp [], Keep.new hp, upd_same, rfl, Nat.le_refl _, q2⟩
  · rintro i H' _ ⟨w', ys, vs, R', k', _⟩
    exact hG H' k'
  · rintro i v H' H'' hi ⟨w', ys, vs, R', k', hp', hr', hl', q'⟩ y
    obtain ⟨u1, y2⟩ := hY i H' v H'' k' y
    obtain ⟨R'', k''⟩ := u1.rel R'
    have hx : xs[i]? = some xs[i] := List.getElem?_eq_getElem hi
    have hrep := y2 (c.in p c.env c.σ) rfl (fun a z => (bad_in.mp z).elim .inl fun z => .inr (by rw [z]; exact NoneT.of hp)) R'.lists xs[i] hx
    have e2 : xs.drop i = xs[i] :: xs.drop (i + 1) := List.drop_eq_getElem_cons hi
    rw [e2] at q'
    have hp'' : H'' p = some (.lst vs) := k''.k _ _ hp' hcup noTbl_lst
    rw [← e0]
    refine hstep w' H'' p xs[i] (xs.drop (i + 1)) ys v _ R'' q' hrep (fun w2 H2 y yv R2 k2 ry q2 => ?_) (fun w2 H2 R2 k2 q2 => ?_)
    · have hp2 : H2 p = some (.lst vs) := k2.k _ _ hp'' hcup noTbl_lst
      have hl2 := hr'.length
      refine ⟨vs, hp2, by rw [← line_eq]; omega, w2, ys ++ [y], vs ++ [yv], R2.mutate (.inr rfl) hcup ⟨_, rfl⟩ hH0, ?_, upd_same, ?_, by simp; omega, q2⟩
      · exact ((k'.trans k'').trans k2).trans2 hp
      · have A : Agr (c.in p c.env c.σ).bad H2 (upd H2 p (.lst (vs ++ [yv]))) := fun b o e nb _ => by rw [upd_ne (fun z => nb (by rw [z]; exact .inl (.inr rfl)))]; exact e
        exact (Reps.mono A (fun _ => .inl) (fun _ => id) (R''.reps k2 (R'.reps k'' hr'))).append (Reps.cons (Rep.mono A (fun _ => .inl) (fun _ => id) ry) Reps.nil)
    · exact ⟨w2, ys, vs, R2, (k'.trans k'').trans k2, k2.k _ _ hp'' hcup noTbl_lst, R''.reps k2 (R'.reps k'' hr'), by omega, q2⟩
  · rintro H' ⟨w', ys, vs, R', k', hp', hr', hl', q'⟩
    rw [List.drop_length, hstop] at q'
    have q' : V (.ok (.lst (ys ++ [])) w') := q'
    rw [List.append_nil] at q'
    exact hend w1 H1 p w' H' ys vs R1 k1 hp q' R' k' hp' hr'
/-- the result of a comprehension, as a value -/
theorem comp_end {c : Fr} {w w1 : List D} {H H1 : Hp} {Q : VK} {s : Bool} {p : Addr} {w' : List D} {H' : Hp} {ys : List D} {vs : List V} (R1 : Rel S.g c w1 H1) (k1 : Keep c.cup H H1) (hp : H1 p = none)
    (q : (match (R.ok (D.lst ys) w' : R D) with | .ok a w' => ∀ H' b, Rel S.g c w' H' → Keep c.cup H H' → c.repS s S.g H' a b → Q b H' | .ex k w' => ∀ H', Rel S.g c w' H' → Keep c.cup H H' → S.EX (.ref (S.g.ca k)) none H' | .no => False))
    (R' : Rel S.g (c.in p c.env c.σ) w' H') (k' : Keep c.cup H1 H') (hp' : H' p = some (.lst vs)) (hr' : (c.in p c.env c.σ).reps S.g H' ys vs) : Q (.ref p) H' := by
  have Ro := R'.outof (.inr ⟨w1, R1⟩) k'
  refine q H' _ Ro (k1.trans k') (Fr.rep.s (d := .lst ys) Ro (show Rep _ _ _ _ (.lst ys) _ from ⟨p, vs, rfl, hp', R1.fresh hp, ?_⟩) s)
  exact Reps.mono (H := H') (H' := H') (fun _ _ h _ _ => h) (fun a z => .inl (bad_in.mpr (.inl z))) (fun _ => id) hr'
end
end VI
end
section
set_option maxRecDepth 100000
namespace VI
open PySem PySem.Spec PyProof.Rows L2
/-! ### a list that nobody else knows -/
def WpF (S : Sg) (c : Fr) (H : Hp) (Q : VK) (r : R D) : Prop := match r with
  | .ok (.lst ds) w' => ∀ p H' vs, NoneT H p → Rel S.g (c.in p c.env c.σ) w' H' → Keep c.cup H H' → H' p = some (.lst vs) → (c.in p c.env c.σ).reps S.g H' ds vs → Q (.ref p) H'
  | .ok _ _ => False
  | .ex k w' => ∀ H', Rel S.g c w' H' → Keep c.cup H H' → S.EX (.ref (S.g.ca k)) none H'
  | .no => False
def tEF (S : Sg) (f : Env → M D) : TE := fun σ H Q => ∃ c w, S.at c σ ∧ Rel S.g c w H ∧ WpF S c H Q (f c.env w)
/-- what is asked of a run, plainly -/
def WpV (S : Sg) (s : Bool) (c : Fr) (H : Hp) (Q : VK) (r : R D) : Prop := match r with
  | .ok a w' => ∀ H' b, Rel S.g c w' H' → Keep c.cup H H' → c.repS s S.g H' a b → Q b H'
  | .ex k w' => ∀ H', Rel S.g c w' H' → Keep c.cup H H' → S.EX (.ref (S.g.ca k)) none H'
  | .no => False
theorem Wp.v {S : Sg} {s : Bool} {c : Fr} {w : List D} {H : Hp} {Q : VK} {m : M D} (h : Wp S.g c S.EX m (c.repS s S.g) w H Q) : WpV S s c H Q (m w) := by
  unfold Wp at h
  cases e : m w with
  | ok a w' => rw [e] at h; exact h
  | ex k w' => rw [e] at h; exact h
  | no => rw [e] at h; exact h
/-- an expression ahead of a new list -/
theorem WpF.bind {S : Sg} {c : Fr} {w : List D} {H H0 : Hp} {Q : VK} {α β : Type} {m : M α} {f : α → M D} {s : Hp → α → β → Prop} (k0 : Keep c.cup H0 H) (h : WpF S c H0 Q (M.bind m f w)) :
    Wp S.g c S.EX m s w H fun b H1 => ∃ a w1, Rel S.g c w1 H1 ∧ Keep c.cup H H1 ∧ s H1 a b ∧ WpF S c H0 Q (f a w1) ∧ m w = .ok a w1 := by
  unfold Wp
  cases e : m w with
  | ok a w1 =>
    have h : WpF S c H0 Q (f a w1) := by unfold M.bind at h; rw [e] at h; exact h
    exact fun H1 b R1 k q => ⟨a, w1, R1, k, q, h, rfl⟩
  | ex k w1 =>
    have h : WpF S c H0 Q (.ex k w1) := by unfold M.bind at h; rw [e] at h; exact h
    exact fun H1 R1 k1 => h H1 R1 (k0.trans k1)
  | no =>
    have h : WpF S c H0 Q .no := by unfold M.bind at h; rw [e] at h; exact h
    exact h
theorem fin_lstF {S : Sg} {c : Fr} {w : List D} {H H0 : Hp} {Q : VK} {ds : List D} {vs : List V} (R : Rel S.g c w H) (k0 : Keep c.cup H0 H) (q : WpF S c H0 Q (.ok (.lst ds) w)) (hr : c.reps S.g H ds vs) {p : Addr} (hp : H p = none) : Q (.ref p) (upd H p (.lst vs)) :=
  q p _ vs (k0.al p (NoneT.of hp)) (R.into hp vs) (k0.trans (Keep.new hp)) upd_same (Reps.mono (R.agr (Keep.new hp)) (fun a z => (bad_in.mp z).elim .inl fun z => .inr (by rw [z]; exact NoneT.of hp)) (fun _ => id) hr)
section
variable {X : Cx} {S : Sg} {s : Bool} {a b c' e tg elt iter cond : Expr} {es : List Expr} {fa fb fc fe : Env → M D} {fs : Env → M (List D)} {fit : Env → M (List D)} {pos p p2 : Pos}
def fComp (fe : Env → M D) (t : T) : Env → List D → M (List D) := fun env => compL fun d => M.bind (liftO (bindT t d env)) fun env' => (fe env').calm
def eComp (fit : Env → M (List D)) (t : T) (fe : Env → M D) : Env → M D := fun env => M.bind (fit env) fun xs => M.bind (few xs) fun _ => M.bind (fComp fe t env xs) fun ys => M.pure (.lst ys)
theorem se_compV {t : T} (hd : ∀ i ∈ t.slots, i ∉ S.own) {σ : L2.St} {H : Hp} {Q : VK} {c : Fr} {w : List D} {V : R D → Prop} (at_ : S.at c σ) (R : Rel S.g c w H) (hno : ¬ V .no)
    (hex : ∀ k w', V (.ex k w') → ∀ H', Rel S.g c w' H' → Keep c.cup H H' → S.EX (.ref (S.g.ca k)) none H')
    (hend : ∀ w1 H1 p w' H' ys vs, Rel S.g c w1 H1 → Keep c.cup H H1 → H1 p = none → V (.ok (.lst ys) w') → Rel S.g (c.in p c.env c.σ) w' H' → Keep c.cup H1 H' → H' p = some (.lst vs) → (c.in p c.env c.σ).reps S.g H' ys vs → Q (.ref p) H')
    (q : V (eComp fit t fe c.env w)) : tLc (tI S false fit) (readT S.g.K t) tYes (tE S.in true fe) t.slots σ H Q := by
  refine comp_loop (f := fComp fe t) at_ R hno hex hend (fun _ => rfl) ?_ q
  intro w H1 p x xs ys v Nx R q hx hy hn
  have q : V ((M.bind (liftO (bindT t x c.env)) fun env' => M.bind (fe env').calm fun y => M.bind (fComp fe t c.env xs) fun zs => M.pure (.lst ((ys ++ [y]) ++ zs))) w) := by
    have e : (M.bind (fComp fe t c.env (x :: xs)) fun zs => M.pure (D.lst (ys ++ zs))) = (M.bind (liftO (bindT t x c.env)) fun env' => M.bind (fe env').calm fun y => M.bind (fComp fe t c.env xs) fun zs => M.pure (.lst ((ys ++ [y]) ++ zs))) := by
      unfold fComp
      rw [show ∀ g, compL g (x :: xs) = M.bind (g x) fun y => M.bind (compL g xs) fun ys => M.pure (y :: ys) from fun _ => rfl]
      rw [M.bind_assoc, M.bind_assoc]
      congr 1; funext env'
      congr 1; funext y
      rw [M.bind_assoc]
      congr 1; funext zs
      show M.pure (D.lst (ys ++ (y :: zs))) = _
      rw [List.append_assoc]; rfl
    rw [← e]; exact q
  obtain ⟨env', e1, q2⟩ : ∃ env', bindT t x c.env = some env' ∧ V ((M.bind (fe env').calm fun y => M.bind (fComp fe t c.env xs) fun zs => M.pure (.lst ((ys ++ [y]) ++ zs))) w) := by
    cases e : bindT t x c.env with
    | none => rw [e] at q; exact (hno q).elim
    | some env' => rw [e] at q; exact ⟨env', rfl, q⟩
  refine Rel.wiped (c := c.in p c.env c.σ) R (slots_own at_ hd) hx e1 fun σ' R' hw => ⟨hw, ?_⟩
  unfold tYes
  refine iteT (B := Nx H1) ?_
  refine ⟨c.in p env' σ', w, ⟨rfl, at_.2.1, at_.2.2.1, at_.2.2.2⟩, R', (Wp.inner hno q2).mono fun y H2 ⟨d, w2, R2, k2, r2, q3⟩ => ?_⟩
  have R3 : Rel S.g (c.in p c.env c.σ) w2 H2 := R.after k2 R2.cupOk R2.tabs
  exact hy w2 H2 d y R3 k2 r2 q3
theorem tlc_comp {t : T} (hd : ∀ i ∈ t.slots, i ∉ S.own) {σ : L2.St} {H : Hp} {Q : VK} (h : tE S s (eComp fit t fe) σ H Q) : tLc (tI S false fit) (readT S.g.K t) tYes (tE S.in true fe) t.slots σ H Q := by
  obtain ⟨c, w, at_, R, q⟩ := h
  exact se_compV hd (V := WpV S s c H Q) at_ R (fun h => h) (fun k w' h => h) (fun w1 H1 p w' H' ys vs R1 k1 hp q R' k' hp' hr' => comp_end (w := w) R1 k1 hp q R' k' hp' hr') q.v
theorem tlc_compF {t : T} (hd : ∀ i ∈ t.slots, i ∉ S.own) {σ : L2.St} {H : Hp} {Q : VK} (h : tEF S (eComp fit t fe) σ H Q) : tLc (tI S false fit) (readT S.g.K t) tYes (tE S.in true fe) t.slots σ H Q := by
  obtain ⟨c, w, at_, R, q⟩ := h
  exact se_compV hd (V := WpF S c H Q) at_ R (fun h => h) (fun k w' h => h) (fun w1 H1 p w' H' ys vs R1 k1 hp q R' k' hp' hr' => q p H' vs (k1.al p (NoneT.of hp)) R' (k1.trans k') hp' hr') q
theorem se_comp {t : T} {scope : Scope} {own : List (Str × Nat)} (hc : X.calm = true) (hN : X.N.Nodup) (hK : X.K = S.g.K) (hi : PI X tg iter (tI S false fit)) (ok : BlkOk X.N X.env.scope scope own) (ho : own.map (·.2) = t.slots) (hd : ∀ i ∈ t.slots, i ∉ S.own)
    (hg : ∀ (s : Shared) (H : Hp) (C : Addr) (cl : List (Str × Addr)) (fp : List Addr), PG (X.blk s H scope (compEnvC scope cl C X.env) fp) tg (readT S.g.K t))
    (he : ∀ (s : Shared) (H : Hp) (C : Addr) (cl : List (Str × Addr)) (fp : List Addr), PE (X.blk s H scope (compEnvC scope cl C X.env) fp) elt (tE S.in true fe))
    (hs : ∀ x, foldedSetIterable iter X.env x = pure x) : PE X (.ListComp elt [⟨tg, iter, [], 0⟩] scope pos) (tE S s (eComp fit t fe)) :=
  PE.weak (pe_lc hc hN hi ok hg (fun _ _ _ _ _ => pts_nil) he hs) fun σ H Q ⟨c, w, at_, R, q⟩ => by
    rw [ho]
    exact se_compV hd (V := WpV S s c H Q) at_ R (fun h => h) (fun k w' h => h) (fun w1 H1 p w' H' ys vs R1 k1 hp q R' k' hp' hr' => comp_end (w := w) R1 k1 hp q R' k' hp' hr') q.v
theorem sf_comp {t : T} {scope : Scope} {own : List (Str × Nat)} (hc : X.calm = true) (hN : X.N.Nodup) (hK : X.K = S.g.K) (hi : PI X tg iter (tI S false fit)) (ok : BlkOk X.N X.env.scope scope own) (ho : own.map (·.2) = t.slots) (hd : ∀ i ∈ t.slots, i ∉ S.own)
    (hg : ∀ (s : Shared) (H : Hp) (C : Addr) (cl : List (Str × Addr)) (fp : List Addr), PG (X.blk s H scope (compEnvC scope cl C X.env) fp) tg (readT S.g.K t))
    (he : ∀ (s : Shared) (H : Hp) (C : Addr) (cl : List (Str × Addr)) (fp : List Addr), PE (X.blk s H scope (compEnvC scope cl C X.env) fp) elt (tE S.in true fe))
    (hs : ∀ x, foldedSetIterable iter X.env x = pure x) : PE X (.ListComp elt [⟨tg, iter, [], 0⟩] scope pos) (tEF S (eComp fit t fe)) :=
  PE.weak (pe_lc hc hN hi ok hg (fun _ _ _ _ _ => pts_nil) he hs) fun σ H Q ⟨c, w, at_, R, q⟩ => by
    rw [ho]
    exact se_compV hd (V := WpF S c H Q) at_ R (fun h => h) (fun k w' h => h) (fun w1 H1 p w' H' ys vs R1 k1 hp q R' k' hp' hr' => q p H' vs (k1.al p (NoneT.of hp)) R' (k1.trans k') hp' hr') q
def fCompIf (fc fe : Env → M D) (t : T) : Env → List D → M (List D) := fun env => compIfL (fun d => M.bind (liftO (bindT t d env)) fun env' => M.bind (fc env').calm fun x => truth x) fun d => M.bind (liftO (bindT t d env)) fun env' => (fe env').calm
def eCompIf (fit : Env → M (List D)) (t : T) (fc fe : Env → M D) : Env → M D := fun env => M.bind (fit env) fun xs => M.bind (few xs) fun _ => M.bind (fCompIf fc fe t env xs) fun ys => M.pure (.lst ys)
theorem calm_truth (x : M D) (f : D → M Bool) (hf : ∀ d w k w', f d w ≠ .ex k w') : M.bind x.calm f = (M.bind x f).calm := by
  funext w
  cases e1 : x w with
  | ok a w1 =>
    have l : M.bind x.calm f w = f a w1 := by unfold M.bind M.calm; rw [e1]
    have r : M.bind x f w = f a w1 := by unfold M.bind; rw [e1]
    rw [l]
    unfold M.calm
    rw [r]
    cases e : f a w1 with
    | ok b w2 => rfl
    | ex k w2 => exact absurd e (hf a w1 k w2)
    | no => rfl
  | ex k w1 =>
    have l : M.bind x.calm f w = .no := by unfold M.bind M.calm; rw [e1]
    have r : M.bind x f w = .ex k w1 := by unfold M.bind; rw [e1]
    rw [l]
    unfold M.calm
    rw [r]
  | no =>
    have l : M.bind x.calm f w = .no := by unfold M.bind M.calm; rw [e1]
    have r : M.bind x f w = .no := by unfold M.bind; rw [e1]
    rw [l]
    unfold M.calm
    rw [r]
theorem truth_noex (d : D) (w : List D) (k : Nat) (w' : List D) : truth d w ≠ .ex k w' := by
  cases d <;> exact fun h => nomatch h
theorem se_compIfV {t : T} (hd : ∀ i ∈ t.slots, i ∉ S.own) {σ : L2.St} {H : Hp} {Q : VK} {c : Fr} {w : List D} {V : R D → Prop} (at_ : S.at c σ) (R : Rel S.g c w H) (hno : ¬ V .no)
    (hex : ∀ k w', V (.ex k w') → ∀ H', Rel S.g c w' H' → Keep c.cup H H' → S.EX (.ref (S.g.ca k)) none H')
    (hend : ∀ w1 H1 p w' H' ys vs, Rel S.g c w1 H1 → Keep c.cup H H1 → H1 p = none → V (.ok (.lst ys) w') → Rel S.g (c.in p c.env c.σ) w' H' → Keep c.cup H1 H' → H' p = some (.lst vs) → (c.in p c.env c.σ).reps S.g H' ys vs → Q (.ref p) H')
    (q : V (eCompIf fit t fc fe c.env w)) : tLc (tI S false fit) (readT S.g.K t) (tT S.in (tst fc)) (tE S.in true fe) t.slots σ H Q := by
  refine comp_loop (f := fCompIf fc fe t) at_ R hno hex hend (fun _ => rfl) ?_ q
  intro w H1 p x xs ys v Nx R q hx hy hn
  have q : V ((M.bind (liftO (bindT t x c.env)) fun env' => M.bind (tst fc env').calm fun b => if b = true then M.bind (fe env').calm fun y => M.bind (fCompIf fc fe t c.env xs) fun zs => M.pure (.lst ((ys ++ [y]) ++ zs)) else M.bind (fCompIf fc fe t c.env xs) fun zs => M.pure (.lst (ys ++ zs))) w) := by
    have e : (M.bind (fCompIf fc fe t c.env (x :: xs)) fun zs => M.pure (D.lst (ys ++ zs))) = (M.bind (liftO (bindT t x c.env)) fun env' => M.bind (tst fc env').calm fun b => if b = true then M.bind (fe env').calm fun y => M.bind (fCompIf fc fe t c.env xs) fun zs => M.pure (.lst ((ys ++ [y]) ++ zs)) else M.bind (fCompIf fc fe t c.env xs) fun zs => M.pure (.lst (ys ++ zs))) := by
      unfold fCompIf
      rw [show ∀ cc g, compIfL cc g (x :: xs) = M.bind (cc x) fun b => if b then M.bind (g x) fun y => M.bind (compIfL cc g xs) fun ys => M.pure (y :: ys) else compIfL cc g xs from fun _ _ => rfl]
      cases eb : bindT t x c.env with
      | none => rfl
      | some env' =>
        rw [show ∀ {β : Type} (f : Env → M β), M.bind (liftO (some env')) f = f env' from fun _ => rfl, show ∀ {β : Type} (f : Env → M β), M.bind (liftO (some env')) f = f env' from fun _ => rfl, show ∀ {β : Type} (f : Env → M β), M.bind (liftO (some env')) f = f env' from fun _ => rfl]
        unfold tst
        rw [← calm_truth _ truth truth_noex, M.bind_assoc]
        congr 1; funext bb
        cases bb with
        | false => rfl
        | true =>
          simp only [if_true]
          rw [M.bind_assoc]
          congr 1; funext y
          rw [M.bind_assoc]
          congr 1; funext zs
          show M.pure (D.lst (ys ++ (y :: zs))) = _
          rw [List.append_assoc]; rfl
    rw [← e]; exact q
  obtain ⟨env', e1, q2⟩ : ∃ env', bindT t x c.env = some env' ∧ V ((M.bind (tst fc env').calm fun b => if b = true then M.bind (fe env').calm fun y => M.bind (fCompIf fc fe t c.env xs) fun zs => M.pure (.lst ((ys ++ [y]) ++ zs)) else M.bind (fCompIf fc fe t c.env xs) fun zs => M.pure (.lst (ys ++ zs))) w) := by
    cases e : bindT t x c.env with
    | none => rw [e] at q; exact (hno q).elim
    | some env' => rw [e] at q; exact ⟨env', rfl, q⟩
  refine Rel.wiped (c := c.in p c.env c.σ) R (slots_own at_ hd) hx e1 fun σ' R' hw => ⟨hw, ?_⟩
  refine ⟨c.in p env' σ', w, ⟨rfl, at_.2.1, at_.2.2.1, at_.2.2.2⟩, R', (Wp.inner hno q2).mono fun bb H2 ⟨b', w2, R2, k2, r2, q3⟩ => ?_⟩
  subst r2
  have R3 : Rel S.g (c.in p c.env c.σ) w2 H2 := R.after k2 R2.cupOk R2.tabs
  refine ite_bool (fun eb => ?_) (fun eb => ?_)
  · subst eb
    refine ⟨c.in p env' σ', w2, ⟨rfl, at_.2.1, at_.2.2.1, at_.2.2.2⟩, R2, (Wp.inner hno q3).mono fun y H3 ⟨d, w3, R4, k3, r3, q4⟩ => ?_⟩
    have R5 : Rel S.g (c.in p c.env c.σ) w3 H3 := R3.after k3 R4.cupOk R4.tabs
    exact hy w3 H3 d y R5 (Keep.trans k2 k3) r3 q4
  · subst eb
    exact hn w2 H2 R3 k2 q3
theorem tlc_compIf {t : T} (hd : ∀ i ∈ t.slots, i ∉ S.own) {σ : L2.St} {H : Hp} {Q : VK} (h : tE S s (eCompIf fit t fc fe) σ H Q) : tLc (tI S false fit) (readT S.g.K t) (tT S.in (tst fc)) (tE S.in true fe) t.slots σ H Q := by
  obtain ⟨c, w, at_, R, q⟩ := h
  exact se_compIfV hd (V := WpV S s c H Q) at_ R (fun h => h) (fun k w' h => h) (fun w1 H1 p w' H' ys vs R1 k1 hp q R' k' hp' hr' => comp_end (w := w) R1 k1 hp q R' k' hp' hr') q.v
theorem tlc_compIfF {t : T} (hd : ∀ i ∈ t.slots, i ∉ S.own) {σ : L2.St} {H : Hp} {Q : VK} (h : tEF S (eCompIf fit t fc fe) σ H Q) : tLc (tI S false fit) (readT S.g.K t) (tT S.in (tst fc)) (tE S.in true fe) t.slots σ H Q := by
  obtain ⟨c, w, at_, R, q⟩ := h
  exact se_compIfV hd (V := WpF S c H Q) at_ R (fun h => h) (fun k w' h => h) (fun w1 H1 p w' H' ys vs R1 k1 hp q R' k' hp' hr' => q p H' vs (k1.al p (NoneT.of hp)) R' (k1.trans k') hp' hr') q
theorem se_compIf {t : T} {scope : Scope} {own : List (Str × Nat)} (hc : X.calm = true) (hN : X.N.Nodup) (hK : X.K = S.g.K) (hi : PI X tg iter (tI S false fit)) (ok : BlkOk X.N X.env.scope scope own) (ho : own.map (·.2) = t.slots) (hd : ∀ i ∈ t.slots, i ∉ S.own)
    (hg : ∀ (s : Shared) (H : Hp) (C : Addr) (cl : List (Str × Addr)) (fp : List Addr), PG (X.blk s H scope (compEnvC scope cl C X.env) fp) tg (readT S.g.K t))
    (ht : ∀ (s : Shared) (H : Hp) (C : Addr) (cl : List (Str × Addr)) (fp : List Addr), PT (X.blk s H scope (compEnvC scope cl C X.env) fp) cond (tT S.in (tst fc)))
    (he : ∀ (s : Shared) (H : Hp) (C : Addr) (cl : List (Str × Addr)) (fp : List Addr), PE (X.blk s H scope (compEnvC scope cl C X.env) fp) elt (tE S.in true fe))
    (hs : ∀ x, foldedSetIterable iter X.env x = pure x) : PE X (.ListComp elt [⟨tg, iter, [cond], 0⟩] scope pos) (tE S s (eCompIf fit t fc fe)) :=
  PE.weak (pe_lc hc hN hi ok hg (fun s H C cl fp => pts_one (ht s H C cl fp)) he hs) fun σ H Q ⟨c, w, at_, R, q⟩ => by
    rw [ho]
    exact se_compIfV hd (V := WpV S s c H Q) at_ R (fun h => h) (fun k w' h => h) (fun w1 H1 p w' H' ys vs R1 k1 hp q R' k' hp' hr' => comp_end (w := w) R1 k1 hp q R' k' hp' hr') q.v
theorem sf_compIf {t : T} {scope : Scope} {own : List (Str × Nat)} (hc : X.calm = true) (hN : X.N.Nodup) (hK : X.K = S.g.K) (hi : PI X tg iter (tI S false fit)) (ok : BlkOk X.N X.env.scope scope own) (ho : own.map (·.2) = t.slots) (hd : ∀ i ∈ t.slots, i ∉ S.own)
    (hg : ∀ (s : Shared) (H : Hp) (C : Addr) (cl : List (Str × Addr)) (fp : List Addr), PG (X.blk s H scope (compEnvC scope cl C X.env) fp) tg (readT S.g.K t))
    (ht : ∀ (s : Shared) (H : Hp) (C : Addr) (cl : List (Str × Addr)) (fp : List Addr), PT (X.blk s H scope (compEnvC scope cl C X.env) fp) cond (tT S.in (tst fc)))
    (he : ∀ (s : Shared) (H : Hp) (C : Addr) (cl : List (Str × Addr)) (fp : List Addr), PE (X.blk s H scope (compEnvC scope cl C X.env) fp) elt (tE S.in true fe))
    (hs : ∀ x, foldedSetIterable iter X.env x = pure x) : PE X (.ListComp elt [⟨tg, iter, [cond], 0⟩] scope pos) (tEF S (eCompIf fit t fc fe)) :=
  PE.weak (pe_lc hc hN hi ok hg (fun s H C cl fp => pts_one (ht s H C cl fp)) he hs) fun σ H Q ⟨c, w, at_, R, q⟩ => by
    rw [ho]
    exact se_compIfV hd (V := WpF S c H Q) at_ R (fun h => h) (fun k w' h => h) (fun w1 H1 p w' H' ys vs R1 k1 hp q R' k' hp' hr' => q p H' vs (k1.al p (NoneT.of hp)) R' (k1.trans k') hp' hr') q
end
end VI
end
section
set_option maxRecDepth 100000
namespace VI
open PySem PySem.Spec PyProof.Rows L2
/-! ### statements -/
abbrev Sg.w (S : Sg) (own : List Nat) : Sg := { S with own := own }
/-- from one state of a body to a later one -/
structure Tr (c : Fr) (H : Hp) (c' : Fr) (H' : Hp) : Prop where
  T : c'.T = c.T
  cup : c'.cup = c.cup
  b0 : c'.b0 = c.b0
  H0 : c'.H0 = c.H0
  agr : Agr c.bad H H'
  bad : ∀ a, c'.bad a → c.bad a ∨ NoneT H a
  al : ∀ a, NoneT H' a → NoneT H a
theorem Tr.refl {c : Fr} {H : Hp} : Tr c H c H := ⟨rfl, rfl, rfl, rfl, fun _ _ h _ _ => h, fun _ => .inl, fun _ h => h⟩
theorem Tr.trans {c c1 c2 : Fr} {H H1 H2 : Hp} (x : Tr c H c1 H1) (y : Tr c1 H1 c2 H2) : Tr c H c2 H2 where
  T := y.T.trans x.T
  cup := y.cup.trans x.cup
  b0 := y.b0.trans x.b0
  H0 := y.H0.trans x.H0
  agr := fun b o h nb nt => y.agr b o (x.agr b o h nb nt) (fun z => (x.bad b z).elim nb fun z => z _ h nt) nt
  bad := fun a z => (y.bad a z).elim (x.bad a) fun z => .inr (x.al a z)
  al := fun a z => x.al a (y.al a z)
/-- an expression ran -/
theorem Tr.keep {g : Gb} {c : Fr} {w : List D} {H H' : Hp} (R : Rel g c w H) (k : Keep c.cup H H') : Tr c H c H' := ⟨rfl, rfl, rfl, rfl, R.agr k, fun _ => .inl, k.al⟩
theorem Tr.keepTo {g : Gb} {c : Fr} {w : List D} {H H' : Hp} {env : Env} {σ : L2.St} (R : Rel g c w H) (k : Keep c.cup H H') : Tr c H (c.to env σ) H' := ⟨rfl, rfl, rfl, rfl, R.agr k, fun _ => .inl, k.al⟩
def slotsAre (c : Fr) (own : List Nat) : Prop := ∀ i, i ∈ c.Own.map (·.1) ↔ i ∈ own
def WpS (S : Sg) (lo own : List Nat) (c : Fr) (H : Hp) (D : Ends) (r : R F) : Prop := match r with
  | .ok (.nx env) w => ∀ c' H', Tr c H c' H' → c'.env = env → slotsAre c' own → Rel S.g c' w H' → D.nx c'.σ H'
  | .ok (.brk env) w => ∀ c' H', Tr c H c' H' → c'.env = env → slotsAre c' lo → Rel S.g c' w H' → D.bk c'.σ H'
  | .ok (.cont env) w => ∀ c' H', Tr c H c' H' → c'.env = env → slotsAre c' lo → Rel S.g c' w H' → D.ct c'.σ H'
  | .ok (.ret d) w => ∀ v H', Keep c.cup c.H0 H' → CupOk S.g c.cup c.b0 w H' → LamX.Tabs c.T H' → Rep S.g c.cup c.b0 H' d v → D.rt v H'
  | .ex k w => ∀ H', Keep c.cup c.H0 H' → CupOk S.g c.cup c.b0 w H' → LamX.Tabs c.T H' → S.EX (.ref (S.g.ca k)) none H'
  | .no => False
def tSt (S : Sg) (lo own : List Nat) (f : Env → M F) : TS := fun D σ H => ∃ c w, S.at c σ ∧ Rel S.g c w H ∧ WpS S lo own c H D (f c.env w)
theorem Rel.cup0 {g : Gb} {c : Fr} {w : List D} {H : Hp} (R : Rel g c w H) : CupOk g c.cup c.b0 w H := fun a z => by
  obtain ⟨us, e, q⟩ := R.cupOk a z
  exact ⟨us, e, Reps.mono (H := H) (H' := H) (fun _ _ h _ _ => h) (fun a z => .inl (.inl z)) (fun _ => id) q⟩
theorem Rel.rep0 {g : Gb} {c : Fr} {w : List D} {H : Hp} (R : Rel g c w H) {d : D} {v : V} (h : c.rep g H d v) : Rep g c.cup c.b0 H d v := Rep.mono (H := H) (H' := H) (fun _ _ h _ _ => h) (fun a z => .inl (.inl z)) (fun _ => id) h
/-- an expression within a statement -/
theorem WpS.bind {S : Sg} {lo own : List Nat} {c : Fr} {w : List D} {H : Hp} {D : Ends} {α β : Type} {m : M α} {f : α → M F} {s : Hp → α → β → Prop} (R : Rel S.g c w H) (h : WpS S lo own c H D (M.bind m f w)) :
    Wp S.g c S.EX m s w H fun b H1 => ∃ a w1, Rel S.g c w1 H1 ∧ Keep c.cup H H1 ∧ s H1 a b ∧ WpS S lo own c H D (f a w1) ∧ m w = .ok a w1 := by
  unfold Wp
  cases e : m w with
  | ok a w1 =>
    have h : WpS S lo own c H D (f a w1) := by unfold M.bind at h; rw [e] at h; exact h
    exact fun H1 b R1 k q => ⟨a, w1, R1, k, q, h, rfl⟩
  | ex k w1 =>
    have h : WpS S lo own c H D (.ex k w1) := by unfold M.bind at h; rw [e] at h; exact h
    exact fun H1 R1 k1 => h H1 R1.ground R1.cup0 R1.tabs
  | no =>
    have h : WpS S lo own c H D .no := by unfold M.bind at h; rw [e] at h; exact h
    exact h
theorem WpS.tr {S : Sg} {lo own : List Nat} {c c1 : Fr} {H H1 : Hp} {D : Ends} {r : R F} (h : WpS S lo own c H D r) (t : Tr c H c1 H1) : WpS S lo own c1 H1 D r := by
  cases r with
  | ok fl w =>
    cases fl with
    | nx env => exact fun c' H' t' e s R => h c' H' (t.trans t') e s R
    | brk env => exact fun c' H' t' e s R => h c' H' (t.trans t') e s R
    | cont env => exact fun c' H' t' e s R => h c' H' (t.trans t') e s R
    | ret d =>
      intro v H' k cu tb r
      rw [t.cup, t.H0] at k
      rw [t.cup, t.b0] at cu r
      rw [t.T] at tb
      exact h v H' k cu tb r
  | ex k w =>
    intro H' k cu tb
    rw [t.cup, t.H0] at k
    rw [t.cup, t.b0] at cu
    rw [t.T] at tb
    exact h H' k cu tb
  | no => exact h
theorem snd_inj : ∀ {l : List (Nat × Addr)} {p q : Nat × Addr}, (l.map (·.2)).Nodup → p ∈ l → q ∈ l → p.2 = q.2 → p = q
  | x :: l, p, q, nd, hp, hq, e => by
    rw [List.map_cons, List.nodup_cons] at nd
    rcases List.mem_cons.mp hp with e1 | e1
    · rcases List.mem_cons.mp hq with e2 | e2
      · rw [e1, e2]
      · exact absurd (List.mem_map.mpr ⟨q, e2, by rw [← e, e1]⟩) nd.1
    · rcases List.mem_cons.mp hq with e2 | e2
      · exact absurd (List.mem_map.mpr ⟨p, e1, by rw [e, e2]⟩) nd.1
      · exact snd_inj nd.2 e1 e2 e
/-- fewer lists of its own -/
def Fr.keepOwn (c : Fr) (q : Nat → Bool) : Fr := { c with Own := c.Own.filter fun p => q p.1 }
theorem keepOwn_bad {c : Fr} {q : Nat → Bool} {a : Addr} (h : (c.keepOwn q).bad a) : c.bad a := by
  rcases h with h | h
  · exact .inl h
  · obtain ⟨p, hp, e⟩ := List.mem_map.mp h
    exact .inr (List.mem_map.mpr ⟨p, (List.mem_filter.mp hp).1, e⟩)
theorem Rel.drop {g : Gb} {c : Fr} {w : List D} {H : Hp} (R : Rel g c w H) (q : Nat → Bool) : Rel g (c.keepOwn q) w H := by
  have A : Agr c.bad H H := fun _ _ h _ _ => h
  have hb : ∀ a, (c.keepOwn q).bad a → c.bad a ∨ NoneT H a := fun a z => .inl (keepOwn_bad z)
  have sub : ∀ p, p ∈ (c.keepOwn q).Own → p ∈ c.Own := fun p hp => (List.mem_filter.mp hp).1
  exact {
    len := R.len
    ground := R.ground
    lists := fun a z => R.lists a (keepOwn_bad z)
    cupB := R.cupB
    new := fun p hp => R.new p (sub p hp)
    cupOk := fun a z => by
      obtain ⟨vs, e, r⟩ := R.cupOk a z
      exact ⟨vs, e, Reps.mono A hb (fun _ => id) r⟩
    ndS := R.ndS.sublist (List.filter_sublist.map _)
    ndA := R.ndA.sublist (List.filter_sublist.map _)
    val := fun i d e => by
      obtain ⟨v, h1, h2⟩ := R.val i d e
      refine ⟨v, h1, ?_⟩
      rcases h2 with ⟨a, h3, h4, ds, vs, h5, h6, h7⟩ | ⟨h3, h4⟩
      · by_cases hq : q i = true
        · exact .inl ⟨a, List.mem_filter.mpr ⟨h3, hq⟩, h4, ds, vs, h5, h6, Reps.mono A hb (fun _ => id) h7⟩
        · refine .inr ⟨fun z => ?_, ?_⟩
          · obtain ⟨p, hp, e1⟩ := List.mem_map.mp z
            have := (List.mem_filter.mp hp).2
            rw [e1] at this
            exact hq this
          · subst h5
            refine ⟨a, vs, h4, h6, fun z => ?_, Reps.mono A hb (fun _ => id) h7⟩
            rcases z with z | z
            · exact (R.new _ h3).2 z
            · obtain ⟨p, hp, e1⟩ := List.mem_map.mp z
              have e2 : p = (i, a) := by
                exact snd_inj R.ndA (sub p hp) h3 e1
              have := (List.mem_filter.mp hp).2
              rw [e2] at this
              exact hq this
      · exact .inr ⟨fun z => h3 (by
          obtain ⟨p, hp, e1⟩ := List.mem_map.mp z
          exact List.mem_map.mpr ⟨p, sub p hp, e1⟩), Rep.mono A hb (fun _ => id) h4⟩
    tabs := R.tabs }
theorem Tr.drop {c : Fr} {H : Hp} (q : Nat → Bool) : Tr c H (c.keepOwn q) H := ⟨rfl, rfl, rfl, rfl, fun _ _ h _ _ => h, fun a z => .inl (keepOwn_bad z), fun _ h => h⟩
theorem slots_drop {c : Fr} {own own1 : List Nat} (h : slotsAre c own) (hs : ∀ i ∈ own1, i ∈ own) : slotsAre (c.keepOwn fun i => own1.contains i) own1 := fun i => by
  constructor
  · intro z
    obtain ⟨p, hp, e1⟩ := List.mem_map.mp z
    have := (List.mem_filter.mp hp).2
    rw [e1] at this
    simpa using this
  · intro z
    have := (h i).mpr (hs i z)
    obtain ⟨p, hp, e1⟩ := List.mem_map.mp this
    exact List.mem_map.mpr ⟨p, List.mem_filter.mpr ⟨hp, by rw [e1]; simpa using z⟩, e1⟩
section
variable {X : Cx} {S : Sg} {lo own own' own1 own2 : List Nat} {f f2 : Env → M F} {st : Stmt} {sts : List Stmt}
/-- with more lists of its own ahead, with fewer behind -/
theorem pre_drop {D : Ends} {σ : L2.St} {H : Hp} (h : tSt (S.w own) lo own' f D σ H) (hs : ∀ i ∈ own1, i ∈ own) : tSt (S.w own1) lo own' f D σ H := by
  obtain ⟨c, w, at_, R, q⟩ := h
  exact ⟨c.keepOwn fun i => own1.contains i, w, ⟨at_.1, at_.2.1, at_.2.2.1, slots_drop at_.2.2.2 hs⟩, R.drop _, WpS.tr (c1 := c.keepOwn fun i => own1.contains i) q (Tr.drop _)⟩
theorem post_drop {c : Fr} {H : Hp} {D : Ends} {r : R F} (h : WpS S lo own1 c H D r) (hs : ∀ i ∈ own1, i ∈ own2) : WpS S lo own2 c H D r := by
  cases r with
  | ok fl w =>
    cases fl with
    | nx env => exact fun c' H' t e sl R => h (c'.keepOwn fun i => own1.contains i) H' (t.trans (Tr.drop _)) e (slots_drop sl hs) (R.drop _)
    | _ => exact h
  | _ => exact h
theorem ss_pre (h : PS X st (tSt (S.w own1) lo own' f)) (hs : ∀ i ∈ own1, i ∈ own) : PS X st (tSt (S.w own) lo own' f) := PS.weak h fun D σ H q => pre_drop q hs
theorem ss_post (h : PS X st (tSt S lo own2 f)) (hs : ∀ i ∈ own1, i ∈ own2) : PS X st (tSt S lo own1 f) := PS.weak h fun D σ H ⟨c, w, at_, R, q⟩ => ⟨c, w, at_, R, post_drop q hs⟩
theorem sss_pre (h : PSs X sts (tSt (S.w own1) lo own' f)) (hs : ∀ i ∈ own1, i ∈ own) : PSs X sts (tSt (S.w own) lo own' f) := PSs.weak h fun D σ H q => pre_drop q hs
theorem sss_post (h : PSs X sts (tSt S lo own2 f)) (hs : ∀ i ∈ own1, i ∈ own2) : PSs X sts (tSt S lo own1 f) := PSs.weak h fun D σ H ⟨c, w, at_, R, q⟩ => ⟨c, w, at_, R, post_drop q hs⟩
def fNil : Env → M F := fun env => M.pure (.nx env)
def fSeq (f f2 : Env → M F) : Env → M F := fun env => M.bind (f env) fun r => match r with
  | .nx env' => f2 env'
  | r => M.pure r
theorem sss_nil : PSs X [] (tSt (S.w own) lo own fNil) := PSs.weak pss_nil fun D σ H ⟨c, w, at_, R, q⟩ => by
  have := q c H Tr.refl rfl at_.2.2.2 R
  rw [at_.1] at this
  exact this
theorem sss_cons (h1 : PS X st (tSt (S.w own) lo own1 f)) (h2 : PSs X sts (tSt (S.w own1) lo own' f2)) : PSs X (st :: sts) (tSt (S.w own) lo own' (fSeq f f2)) :=
  PSs.weak (pss_cons h1 h2) fun D σ H ⟨c, w, at_, R, q⟩ => by
    refine ⟨c, w, at_, R, ?_⟩
    unfold fSeq M.bind at q
    cases e : f c.env w with
    | ok fl w1 =>
      rw [e] at q
      cases fl with
      | nx env1 => exact fun c' H' t e1 sl R' => ⟨c', w1, ⟨rfl, t.T.trans at_.2.1, t.cup.trans at_.2.2.1, sl⟩, R', WpS.tr (c1 := c') (by rw [e1]; exact q) t⟩
      | brk env1 => exact q
      | cont env1 => exact q
      | ret d => exact q
    | ex k w1 => rw [e] at q; exact q
    | no => rw [e] at q; exact q
end
end VI
end
section
set_option maxRecDepth 100000
namespace VI
open PySem PySem.Spec PyProof.Rows L2
section
variable {X : Cx} {S : Sg} {lo own own' own1 own2 : List Nat} {f f2 fb : Env → M F} {fa fe fc fi : Env → M D} {fs : Env → M (List D)} {st : Stmt} {sts body orelse : List Stmt} {a b e tg iter test : Expr} {es : List Expr} {pos p p2 : Pos} {s : Bool}
/-- an expression ahead, in a statement -/
theorem oneW {c : Fr} {w : List D} {H : Hp} {Ds : Ends} {σ : L2.St} {s : Bool} {k : D → M F} (at_ : S.at c σ) (R : Rel S.g c w H) (h : WpS S lo own c H Ds (M.bind (fe c.env) k w)) :
    tE S s fe σ H fun x H1 => ∃ d w1, Rel S.g c w1 H1 ∧ Keep c.cup H H1 ∧ c.repS s S.g H1 d x ∧ WpS S lo own c H Ds (k d w1) :=
  ⟨c, w, at_, R, (WpS.bind R h).mono fun x H1 ⟨d, w1, R1, k1, q1, h1, _⟩ => ⟨d, w1, R1, k1, q1, h1⟩⟩
theorem ss_asg {t : T} (he : PE X e (tE (S.w own) true fe)) (hg : PG X tg (readT S.g.K t)) (hd : ∀ i ∈ t.slots, i ∉ own) (hs : swapsWithSole [tg] e pos.line X.env = pure false) (hw : swappedStores [tg] e X.env = pure none) (h1 : (assignEach [tg] X.env).map (·.2) = [assign tg X.env]) :
    PS X (.Assign [tg] e pos) (tSt (S.w own) lo own fun env => M.bind (fe env) fun d => M.bind (liftO (bindT t d env)) fun env' => M.pure (.nx env')) :=
  PS.weak (ps_asg he hg hs hw h1) fun Ds σ H ⟨c, w, at_, R, q⟩ => tE_mono (oneW (s := true) at_ R q) fun x H1 ⟨d, w1, R1, k1, r1, q1⟩ => by
    cases e1 : bindT t d c.env with
    | none => rw [e1] at q1; exact q1.elim
    | some env' =>
      rw [e1] at q1
      have e0 := at_.1
      rw [← e0]
      exact bind_ok R1 r1 e1 (slots_own at_ hd) fun σ' R' s' => q1 (c.to env' σ') H1 (Tr.keepTo R k1) rfl at_.2.2.2 R'
theorem setParts_ok {g : Gb} {w : List D} {H : Hp} : ∀ {is : List Nat} {c : Fr} {ds : List D} {vs : List V} {env' : Env}, Rel g c w H → c.reps g H ds vs → setParts is ds c.env = some env' → (∀ i ∈ is, i ∉ c.Own.map (·.1)) →
    Rel g (c.to env' ((is.zip vs).foldl (fun σ p => σ.set p.1 (some p.2)) c.σ)) w H ∧ vs.length = is.length
  | [], c, ds, vs, env', R, h, e, ho => by
    cases ds with
    | nil =>
      cases h
      have e : some c.env = some env' := e
      cases e
      exact ⟨R, rfl⟩
    | cons _ _ => cases e
  | i :: is, c, ds, vs, env', R, h, e, ho => by
    cases ds with
    | nil => cases e
    | cons d ds =>
      obtain ⟨v, ws, rfl, h2, h3⟩ := h
      obtain ⟨h4, h5⟩ := setParts_ok (is := is) (c := c.to (c.env.set i (some d)) (c.σ.set i (some v))) (R.setS h2 (ho i List.mem_cons_self)) h3 e fun j hj => ho j (List.mem_cons_of_mem _ hj)
      exact ⟨h4, by simp [h5]⟩
theorem ss_par2 {i j : Nat} {x y : Str} {px py pt : Pos} {kt k2 : Nat} {pt2 : Pos} (hc : X.calm = true) (hN : X.N.Nodup) (hi : X.N[i]? = some x) (hj : X.N[j]? = some y) (hij : i ≠ j) (hx : X.env.scope.names.lookup x = some .local) (hy : X.env.scope.names.lookup y = some .local)
    (ha : PA X [a, b] (tEs (S.w own) true fs)) (hw : swappedStores [.Tuple [.Name x px, .Name y py] kt pt] (.Tuple [a, b] k2 pt2) X.env = pure (some [x, y])) (hs : swapsWithSole [.Tuple [.Name x px, .Name y py] kt pt] (.Tuple [a, b] k2 pt2) pos.line X.env = pure false)
    (hd : i ∉ own ∧ j ∉ own) : PS X (.Assign [.Tuple [.Name x px, .Name y py] kt pt] (.Tuple [a, b] k2 pt2) pos) (tSt (S.w own) lo own fun env => M.bind (fs env) fun ds => M.bind (liftO (setParts [i, j] ds env)) fun env' => M.pure (.nx env')) :=
  PS.weak (ps_par hc hN hi hj hij hx hy ha hw hs) fun Ds σ H ⟨c, w, at_, R, q⟩ => by
    refine ⟨c, w, at_, R, (WpS.bind R q).mono fun vs H1 ⟨ds, w1, R1, k1, r1, q1, _⟩ => ?_⟩
    cases e1 : setParts [i, j] ds c.env with
    | none => rw [e1] at q1; exact q1.elim
    | some env' =>
      rw [e1] at q1
      obtain ⟨R2, hl⟩ := setParts_ok R1 r1.t e1 (slots_own at_ fun k hk => by
        rcases List.mem_cons.mp hk with z | z
        · rw [z]; exact hd.1
        · rcases List.mem_cons.mp z with z | z
          · rw [z]; exact hd.2
          · cases z)
      match vs, hl with
      | [u, v], _ =>
        refine ⟨u, v, rfl, ?_⟩
        have := q1 _ H1 (Tr.keepTo R k1) rfl at_.2.2.2 R2
        rw [← at_.1]
        exact this
theorem ss_par3 {i j l : Nat} {x y z : Str} {c' : Expr} {px py pz pt : Pos} {kt k2 : Nat} {pt2 : Pos} (hc : X.calm = true) (hN : X.N.Nodup) (hi : X.N[i]? = some x) (hj : X.N[j]? = some y) (hl' : X.N[l]? = some z) (hij : i ≠ j) (hil : i ≠ l) (hjl : j ≠ l)
    (hx : X.env.scope.names.lookup x = some .local) (hy : X.env.scope.names.lookup y = some .local) (hz : X.env.scope.names.lookup z = some .local)
    (ha : PA X [a, b, c'] (tEs (S.w own) true fs)) (hw : swappedStores [.Tuple [.Name x px, .Name y py, .Name z pz] kt pt] (.Tuple [a, b, c'] k2 pt2) X.env = pure (some [x, y, z])) (hs : swapsWithSole [.Tuple [.Name x px, .Name y py, .Name z pz] kt pt] (.Tuple [a, b, c'] k2 pt2) pos.line X.env = pure false)
    (hd : i ∉ own ∧ j ∉ own ∧ l ∉ own) : PS X (.Assign [.Tuple [.Name x px, .Name y py, .Name z pz] kt pt] (.Tuple [a, b, c'] k2 pt2) pos) (tSt (S.w own) lo own fun env => M.bind (fs env) fun ds => M.bind (liftO (setParts [i, j, l] ds env)) fun env' => M.pure (.nx env')) :=
  PS.weak (ps_par3 hc hN hi hj hl' hij hil hjl hx hy hz ha hw hs) fun Ds σ H ⟨c, w, at_, R, q⟩ => by
    refine ⟨c, w, at_, R, (WpS.bind R q).mono fun vs H1 ⟨ds, w1, R1, k1, r1, q1, _⟩ => ?_⟩
    cases e1 : setParts [i, j, l] ds c.env with
    | none => rw [e1] at q1; exact q1.elim
    | some env' =>
      rw [e1] at q1
      obtain ⟨R2, hl⟩ := setParts_ok R1 r1.t e1 (slots_own at_ fun k hk => by
        simp only [List.mem_cons, List.not_mem_nil, or_false] at hk
        rcases hk with z | z | z
        · rw [z]; exact hd.1
        · rw [z]; exact hd.2.1
        · rw [z]; exact hd.2.2)
      match vs, hl with
      | [u, v, t], _ =>
        refine ⟨u, v, t, rfl, ?_⟩
        have := q1 _ H1 (Tr.keepTo R k1) rfl at_.2.2.2 R2
        rw [← at_.1]
        exact this
/-- a, b = e1, e2 where the tuple is made -/
theorem ss_parT {is : List Nat} {ts : Ts} (hp : ∀ ds env, bindT (.tp ts) (.tup ds) env = setParts is ds env) {x1 n : Nat} {pv : Pos} (hl : Len fs n) (hn : n ≤ 1000) (he : PA X es (tEs (S.w own) true fs)) (hg : PG X tg (readT S.g.K (.tp ts))) (hd : ∀ i ∈ ts.slots, i ∉ own) (hs : swapsWithSole [tg] (.Tuple es x1 pv) pos.line X.env = pure false) (hw : swappedStores [tg] (.Tuple es x1 pv) X.env = pure none) (h1 : (assignEach [tg] X.env).map (·.2) = [assign tg X.env]) :
    PS X (.Assign [tg] (.Tuple es x1 pv) pos) (tSt (S.w own) lo own fun env => M.bind (fs env) fun ds => M.bind (liftO (setParts is ds env)) fun env' => M.pure (.nx env')) :=
  PS.weak (ss_asg (t := .tp ts) (se_tup he hl hn) hg hd hs hw h1) fun Ds σ H ⟨c, w, at_, R, q⟩ => ⟨c, w, at_, R, by
    have e : (M.bind (M.bind (fs c.env) fun xs => M.pure (D.tup xs)) fun d => M.bind (liftO (bindT (.tp ts) d c.env)) fun env' => M.pure (F.nx env')) = (M.bind (fs c.env) fun ds => M.bind (liftO (setParts is ds c.env)) fun env' => M.pure (F.nx env')) := by
      rw [M.bind_assoc]
      congr 1; funext ds
      rw [M.bind_pure, hp]
    have q2 : WpS (S.w own) lo own c H Ds ((M.bind (M.bind (fs c.env) fun xs => M.pure (D.tup xs)) fun d => M.bind (liftO (bindT (.tp ts) d c.env)) fun env' => M.pure (F.nx env')) w) := by rw [e]; exact q
    exact q2⟩
theorem ss_expr (he : PE X e (tE (S.w own) false fe)) (hs : swapsWith e none pos.line X.env = pure false) : PS X (.Expr e pos) (tSt (S.w own) lo own fun env => M.bind (fe env) fun _ => M.pure (.nx env)) :=
  PS.weak (ps_expr he hs) fun Ds σ H ⟨c, w, at_, R, q⟩ => tE_mono (oneW (s := false) at_ R q) fun x H1 ⟨d, w1, R1, k1, r1, q1⟩ => by
    have := q1 c H1 (Tr.keep R k1) rfl at_.2.2.2 R1
    rw [at_.1] at this
    exact this
theorem ss_ret (he : PE X e (tE (S.w own) true fe)) : PS X (.Return (some e) pos) (tSt (S.w own) lo own' fun env => M.bind (fe env) fun d => M.pure (.ret d)) :=
  PS.weak (ps_ret he) fun Ds σ H ⟨c, w, at_, R, q⟩ => tE_mono (oneW (s := true) at_ R q) fun x H1 ⟨d, w1, R1, k1, r1, q1⟩ => q1 x H1 R1.ground R1.cup0 R1.tabs (R1.rep0 r1)
theorem ss_retN : PS X (.Return none pos) (tSt (S.w own) lo own' fun _ => M.pure (.ret .non)) := PS.weak ps_retN fun Ds σ H ⟨c, w, at_, R, q⟩ => q _ H R.ground R.cup0 R.tabs rfl
theorem ss_pass : PS X (.Pass pos) (tSt (S.w own) lo own fNil) := PS.weak ps_pass fun Ds σ H ⟨c, w, at_, R, q⟩ => by
  have := q c H Tr.refl rfl at_.2.2.2 R
  rw [at_.1] at this
  exact this
theorem ss_brk (hl : ∀ i, i ∈ own ↔ i ∈ lo) : PS X (.Break pos) (tSt (S.w own) lo own' fun env => M.pure (.brk env)) := PS.weak ps_break fun Ds σ H ⟨c, w, at_, R, q⟩ => by
  have := q c H Tr.refl rfl (fun i => (at_.2.2.2 i).trans (hl i)) R
  rw [at_.1] at this
  exact this
theorem ss_cont (hl : ∀ i, i ∈ own ↔ i ∈ lo) : PS X (.Continue pos) (tSt (S.w own) lo own' fun env => M.pure (.cont env)) := PS.weak ps_continue fun Ds σ H ⟨c, w, at_, R, q⟩ => by
  have := q c H Tr.refl rfl (fun i => (at_.2.2.2 i).trans (hl i)) R
  rw [at_.1] at this
  exact this
theorem ss_if (hc : PT X test (tT (S.w own) (tst fc))) (ha : PSs X body (tSt (S.w own) lo own' f)) (hb : PSs X orelse (tSt (S.w own) lo own' f2)) :
    PS X (.If test body orelse pos) (tSt (S.w own) lo own' fun env => M.bind (fc env) fun x => M.bind (truth x) fun k => if k then f env else f2 env) :=
  PS.weak (ps_if hc ha hb) fun Ds σ H ⟨c, w, at_, R, q⟩ => by
    have q : WpS S lo own' c H Ds (M.bind (tst fc c.env) (fun k => if k = true then f c.env else f2 c.env) w) := by
      have e : (M.bind (tst fc c.env) fun k => if k = true then f c.env else f2 c.env) = M.bind (fc c.env) fun x => M.bind (truth x) fun k => if k then f c.env else f2 c.env := by
        unfold tst; rw [M.bind_assoc]
      rw [e]; exact q
    refine ⟨c, w, at_, R, (WpS.bind R q).mono fun k H1 ⟨k', w1, R1, k1, r1, q1, _⟩ => ?_⟩
    subst r1
    refine ite_bool (fun e => ?_) (fun e => ?_)
    · subst e; exact ⟨c, w1, at_, R1, WpS.tr (c1 := c) q1 (Tr.keep R k1)⟩
    · subst e; exact ⟨c, w1, at_, R1, WpS.tr (c1 := c) q1 (Tr.keep R k1)⟩
theorem ss_raise {k : Nat} {x m : Str} {j : Nat} {p3 : Pos} {newId initId : String} {B : String} {bmB : List Value} (hc : X.calm = true) (tk : L2N.Takes X fun cls d _ H => S.EX cls d H) (he : L2N.PMk X (.Call (.Name x p) [.Constant (.str m) j p2] [] p3) (fun _ H Q => Q (.ref (S.g.ca k)) none H)) :
    PS X (.Raise (some (.Call (.Name x p) [.Constant (.str m) j p2] [] p3)) none pos) (tSt (S.w own) lo own' fun _ => M.ex k) :=
  PS.weak (L2N.ps_raise hc tk he) fun Ds σ H ⟨c, w, at_, R, q⟩ => q H R.ground R.cup0 R.tabs

/-! ### loops -/
def kFor (f : Env → M F) (t : T) : Env → List D → M F := fun env xs => forL (fun d env => M.bind (liftO (bindT t d env)) fun env' => f env') xs env
theorem ss_for {t : T} {fit : Env → M (List D)} (hp : PassesOwn (model X.prog X.w) X.A X.env X.xe) (hc : X.calm = true) (hi : PI X tg iter (tI (S.w own) true fit)) (hg : PG X tg (readT S.g.K t)) (hb : PSs X body (tSt (S.w own) own own fb)) (hd : ∀ i ∈ t.slots, i ∉ own)
    (hs : ∀ x, foldedSetIterable iter X.env x = pure x) : PS X (.For tg iter body [] pos) (tSt (S.w own) lo own fun env => M.bind (fit env) fun xs => kFor fb t env xs) :=
  PS.weak (ps_for hp hc hi hg hb hs) fun Ds σ H ⟨c, w, at_, R, q⟩ => by
    refine ⟨c, w, at_, R, (WpS.bind R q).mono fun J H1 ⟨xs, w1, R1, k1, it, q1, _⟩ => ?_⟩
    obtain ⟨G, Y, W, hG, hY⟩ := it
    refine for_it W (fun i σ' H' => ∃ c' w', Tr c H1 c' H' ∧ c'.σ = σ' ∧ slotsAre c' own ∧ Rel S.g c' w' H' ∧ WpS S lo own c H Ds (kFor fb t c'.env (xs.drop i) w')) ⟨c, w1, Tr.refl, at_.1, at_.2.2.2, R1, q1⟩ ?_ ?_ ?_
    · rintro i σ' H' _ ⟨c', w', t', _⟩
      exact hG H' t'.agr
    · rintro i v σ' H' H'' hlt ⟨c', w', t', rfl, sl', R', q'⟩ y
      obtain ⟨u1, y2⟩ := hY i H' v H'' t'.agr y
      obtain ⟨R2, k2⟩ := u1.rel R'
      have hx : xs[i]? = some xs[i] := List.getElem?_eq_getElem hlt
      have hrep := y2 c' t'.cup t'.bad R'.lists xs[i] hx
      have e2 : xs.drop i = xs[i] :: xs.drop (i + 1) := List.drop_eq_getElem_cons hlt
      rw [e2] at q'
      have q' : WpS S lo own c H Ds (M.bind (M.bind (liftO (bindT t xs[i] c'.env)) fun env' => fb env') (fun r => match r with | .nx e => kFor fb t e (xs.drop (i + 1)) | .cont e => kFor fb t e (xs.drop (i + 1)) | .brk e => M.pure (.nx e) | .ret d => M.pure (.ret d)) w') := q'
      cases e3 : bindT t xs[i] c'.env with
      | none => rw [e3] at q'; exact q'.elim
      | some env' =>
        rw [e3] at q'
        have q' : WpS S lo own c H Ds (M.bind (fb env') (fun r => match r with | .nx e => kFor fb t e (xs.drop (i + 1)) | .cont e => kFor fb t e (xs.drop (i + 1)) | .brk e => M.pure (.nx e) | .ret d => M.pure (.ret d)) w') := q'
        refine bind_ok R2 hrep e3 (fun j hj z => hd j hj ((sl' j).mp z)) fun σ2 R3 s3 => ?_
        have T1 : Tr c H (c'.to env' σ2) H'' := ((Tr.keep R k1).trans t').trans (Tr.keepTo R' k2)
        have T2 : Tr c H1 (c'.to env' σ2) H'' := t'.trans (Tr.keepTo R' k2)
        refine ⟨c'.to env' σ2, w', ⟨rfl, T1.T.trans at_.2.1, T1.cup.trans at_.2.2.1, sl'⟩, R3, ?_⟩
        unfold M.bind at q'
        cases e4 : fb env' w' with
        | ok fl w4 =>
          rw [e4] at q'
          cases fl with
          | nx env4 => exact fun c4 H4 t4 e5 sl4 R4 => ⟨c4, w4, T2.trans t4, rfl, sl4, R4, by rw [e5]; exact q'⟩
          | cont env4 => exact fun c4 H4 t4 e5 sl4 R4 => ⟨c4, w4, T2.trans t4, rfl, sl4, R4, by rw [e5]; exact q'⟩
          | brk env4 => exact fun c4 H4 t4 e5 sl4 R4 => q' c4 H4 (T1.trans t4) e5 sl4 R4
          | ret d => exact WpS.tr (D := Ds) (lo := lo) (c1 := c'.to env' σ2) (r := .ok (.ret d) w4) (own := own) q' T1
        | ex k w4 =>
          rw [e4] at q'
          exact WpS.tr (D := Ds) (lo := lo) (c1 := c'.to env' σ2) (r := .ex k w4) (own := own) q' T1
        | no => rw [e4] at q'; exact q'.elim
    · rintro σ' H' ⟨c', w', t', rfl, sl', R', q'⟩
      rw [List.drop_length] at q'
      exact q' c' H' ((Tr.keep R k1).trans t') rfl sl' R'
end
end VI
end
section
set_option maxRecDepth 100000
namespace VI
open PySem PySem.Spec PyProof.Rows L2
section
variable {X : Cx} {S : Sg} {lo own own' own1 own2 : List Nat} {f f2 fb : Env → M F} {fa fe fc fi : Env → M D} {fs : Env → M (List D)} {st : Stmt} {sts body orelse : List Stmt} {a b e tg iter test : Expr} {es : List Expr} {pos p p2 : Pos} {s : Bool}
theorem ss_while (hp : PassesOwn (model X.prog X.w) X.A X.env X.xe) (hc : PT X test (tT (S.w own) (tst fc))) (hb : PSs X body (tSt (S.w own) own own fb)) :
    PS X (.While test body [] pos) (tSt (S.w own) lo own fun env => whileL (fun env => M.bind (fc env) fun x => truth x) fb turns env) :=
  PS.weak (ps_while hp hc hb) fun Ds σ H ⟨c, w, at_, R, q⟩ => by
    refine ⟨fun m σ' H' => ∃ c' w', (S.w own).at c' σ' ∧ Rel S.g c' w' H' ∧ WpS S lo own c' H' Ds (whileL (tst fc) fb m c'.env w'), ⟨turns, c, w, at_, R, q⟩, ?_⟩
    rintro m σ' H' ⟨c', w', at', R', q'⟩
    cases m with
    | zero => exact q'.elim
    | succ m =>
      have q' : WpS (S.w own) lo own c' H' Ds (M.bind (tst fc c'.env) (fun b => if b then M.bind (fb c'.env) fun r => match r with | .nx e => whileL (tst fc) fb m e | .cont e => whileL (tst fc) fb m e | .brk e => M.pure (.nx e) | .ret d => M.pure (.ret d) else M.pure (.nx c'.env)) w') := q'
      refine ⟨c', w', at', R', (WpS.bind R' q').mono fun k H1 ⟨k', w1, R1, k1, r1, q1, _⟩ => ?_⟩
      subst r1
      have q1 := WpS.tr q1 (Tr.keep R' k1)
      refine ite_bool (fun e => ?_) (fun e => ?_)
      · subst e
        have q1 : WpS (S.w own) lo own c' H1 Ds (M.bind (fb c'.env) (fun r => match r with | .nx e => whileL (tst fc) fb m e | .cont e => whileL (tst fc) fb m e | .brk e => M.pure (.nx e) | .ret d => M.pure (.ret d)) w1) := q1
        refine ⟨fun σ4 H4 => ∃ c4 w4, (S.w own).at c4 σ4 ∧ Rel S.g c4 w4 H4 ∧ WpS S lo own c4 H4 Ds (whileL (tst fc) fb m c4.env w4), fun σ4 H4 h4 => ⟨m, Nat.lt_succ_self m, h4⟩, c', w1, at', R1, ?_⟩
        unfold M.bind at q1
        cases e4 : fb c'.env w1 with
        | ok fl w4 =>
          rw [e4] at q1
          cases fl with
          | nx env4 => exact fun c4 H4 t4 e5 sl4 R4 => ⟨c4, w4, ⟨rfl, t4.T.trans at'.2.1, t4.cup.trans at'.2.2.1, sl4⟩, R4, WpS.tr (c1 := c4) (by rw [e5]; exact q1) t4⟩
          | cont env4 => exact fun c4 H4 t4 e5 sl4 R4 => ⟨c4, w4, ⟨rfl, t4.T.trans at'.2.1, t4.cup.trans at'.2.2.1, sl4⟩, R4, WpS.tr (c1 := c4) (by rw [e5]; exact q1) t4⟩
          | brk env4 => exact fun c4 H4 t4 e5 sl4 R4 => q1 c4 H4 t4 e5 sl4 R4
          | ret d => exact q1
        | ex k w4 => rw [e4] at q1; exact q1
        | no => rw [e4] at q1; exact q1.elim
      · subst e
        have := q1 c' H1 Tr.refl rfl at'.2.2.2 R1
        rw [at'.1] at this
        exact this

/-! ### lists of one's own, written -/
theorem Fr.own_slot {c : Fr} {w : List D} {H : Hp} {i : Nat} {d : D} {v : V} {g : Gb} (R : Rel g c w H) (h : c.slot g H i d v) (hi : i ∈ c.Own.map (·.1)) : ∃ a ds vs, (i, a) ∈ c.Own ∧ v = .ref a ∧ d = .lst ds ∧ H a = some (.lst vs) ∧ c.reps g H ds vs := by
  rcases h with ⟨a, h3, h4, ds, vs, h5, h6, h7⟩ | ⟨h3, _⟩
  · exact ⟨a, ds, vs, h3, h4, h5, h6, h7⟩
  · exact absurd hi h3
/-- the own list of slot x is written -/
theorem Rel.write {g : Gb} {c : Fr} {w : List D} {H : Hp} {x : Nat} {a : Addr} {ds ds0 : List D} {vs : List V} (R : Rel g c w H) (ho : (x, a) ∈ c.Own) (h0 : c.env[x]? = some (some (.lst ds0))) (hr : c.reps g H ds vs) :
    Rel g { c with env := c.env.set x (some (.lst ds)) } w (upd H a (.lst vs)) ∧ Tr c H { c with env := c.env.set x (some (.lst ds)) } (upd H a (.lst vs)) := by
  have hb : c.bad a := .inr (List.mem_map.mpr ⟨_, ho, rfl⟩)
  have hc : c.cup ≠ some a := fun z => (R.new _ ho).2 (R.cupB a z)
  have A : Agr c.bad H (upd H a (.lst vs)) := fun b u e nb _ => by rw [upd_ne (fun z => nb (by rw [z]; exact hb))]; exact e
  obtain ⟨ys, hp⟩ := R.lists a hb
  have hn : ∀ b, NoneT (upd H a (.lst vs)) b → NoneT H b := fun b e => by
    by_cases z : b = a
    · exact (e _ (by rw [z, upd_same]) noTbl_lst).elim
    · exact fun u eu => e u (by rw [upd_ne z]; exact eu)
  obtain ⟨v0, hv0, hs0⟩ := R.val x _ h0
  have hx : x ∈ c.Own.map (·.1) := List.mem_map.mpr ⟨_, ho, rfl⟩
  have fst_inj : ∀ b, (x, b) ∈ c.Own → b = a := fun b hb' => by
    have nd := R.ndS
    have key : ∀ {l : List (Nat × Addr)}, (l.map (·.1)).Nodup → (x, b) ∈ l → (x, a) ∈ l → b = a := by
      intro l
      induction l with
      | nil => intro _ h; cases h
      | cons y l ih =>
        intro nd h1 h2
        rw [List.map_cons, List.nodup_cons] at nd
        rcases List.mem_cons.mp h1 with e1 | e1
        · rcases List.mem_cons.mp h2 with e2 | e2
          · rw [← e1] at e2; exact (Prod.mk.inj e2).2.symm
          · exact absurd (List.mem_map.mpr ⟨_, e2, by rw [← e1]⟩) nd.1
        · rcases List.mem_cons.mp h2 with e2 | e2
          · exact absurd (List.mem_map.mpr ⟨_, e1, by rw [← e2]⟩) nd.1
          · exact ih nd.2 e1 e2
    exact key nd hb' ho
  refine ⟨?_, ⟨rfl, rfl, rfl, rfl, A, fun _ => .inl, hn⟩⟩
  exact {
    len := by simpa using R.len
    ground := ⟨fun b u e nb nt => by rw [upd_ne (fun z => (R.new _ ho).1 u (by rw [← z]; exact e) nt)]; exact R.ground.k b u e nb nt, fun b e => R.ground.al b (hn b e)⟩
    lists := fun b z => by
      by_cases e : b = a
      · exact ⟨vs, by rw [e, upd_same]⟩
      · rw [upd_ne e]; exact R.lists b z
    cupB := R.cupB
    new := R.new
    cupOk := fun b z => by
      obtain ⟨us, e, q⟩ := R.cupOk b z
      exact ⟨us, by rw [upd_ne (fun y => hc (by rw [← y]; exact z))]; exact e, Reps.mono A (fun _ => .inl) (fun _ => id) q⟩
    ndS := R.ndS
    ndA := R.ndA
    val := fun i d e => by
      have e : (c.env.set x (some (.lst ds)))[i]? = some (some d) := e
      by_cases hi : x = i
      · subst hi
        have hl : x < c.env.length := (List.getElem?_eq_some_iff.mp h0).1
        rw [List.getElem?_set_self hl] at e
        cases e
        refine ⟨v0, hv0, ?_⟩
        obtain ⟨b, _, _, hb1, hb2, _⟩ := Fr.own_slot R hs0 hx
        have := fst_inj b hb1
        subst this
        exact .inl ⟨b, ho, hb2, ds, vs, rfl, upd_same, Reps.mono A (fun _ => .inl) (fun _ => id) hr⟩
      · rw [List.getElem?_set_ne hi] at e
        obtain ⟨v, h1, h2⟩ := R.val i d e
        refine ⟨v, h1, ?_⟩
        rcases h2 with ⟨b, h3, h4, es, us, h5, h6, h7⟩ | ⟨h3, h4⟩
        · refine .inl ⟨b, h3, h4, es, us, h5, ?_, Reps.mono A (fun _ => .inl) (fun _ => id) h7⟩
          rw [upd_ne (fun z => hi (by
            have := snd_inj R.ndA ho h3 (show a = b from z.symm)
            exact (Prod.mk.inj this).1))]
          exact h6
        · exact .inr ⟨h3, Rep.mono A (fun _ => .inl) (fun _ => id) h4⟩
    tabs := tabs_upd R.tabs hp }
theorem ss_app {x : Nat} {n : Str} {p3 apos cpos : Pos} (hN : X.N[x]? = some n) (hv : Vis X.env.scope n) (hd : (n == ("__debug__" : Str)) = false) (hcd : (n == ("__classdict__" : Str)) = false) (ho : x ∈ own) (he : PE X e (tE (S.w own) true fe))
    (hbase : attributeBase (.Name n p3) "append" X.env (eval (.Name n p3) X.env) = eval (.Name n p3) X.env)
    (hfew : ((backTo cpos (starEach [e] X.env)).all (fun x => !x.1) && (backToKw cpos (keywordEach [] X.env)).all (fun x => x.1.isSome) && decide ([e].length + ([] : List Keyword).length + (if ([] : List Keyword).isEmpty then 0 else 1) < 30)) = true)
    (hline : (apos.endLine == cpos.line) = true) (hs : starEach [e] X.env = (false, eval e X.env) :: starEach [] X.env)
    (hsw : swapsWith (.Call (.Attribute (.Name n p3) "append" apos) [e] [] cpos) none pos.line X.env = pure false) :
    PS X (.Expr (.Call (.Attribute (.Name n p3) "append" apos) [e] [] cpos) pos) (tSt (S.w own) lo own fun env => M.bind (getV env x) fun o => M.bind (fe env) fun v => appM x env o v) :=
  PS.weak (ps_expr (pe_bm PySem.F.plainAttrs_list PySem.F.slot_list_append PySem.F.type_list_append mt_append (pe_var hN hv hd hcd) (pa_cons he pa_nil hs) hbase hfew hline hs rfl) hsw) fun Ds σ H ⟨c, w, at_, R, q⟩ => by
    have q : WpS (S.w own) lo own c H Ds (M.bind (getV c.env x) (fun o => M.bind (fe c.env) fun v => appM x c.env o v) w) := q
    unfold getV at q
    cases e0 : c.env[x]? with
    | none => rw [e0] at q; exact q.elim
    | some o =>
      cases o with
      | none => rw [e0] at q; exact q.elim
      | some d =>
        rw [e0] at q
        have q : WpS (S.w own) lo own c H Ds (M.bind (fe c.env) (fun v => appM x c.env d v) w) := q
        obtain ⟨v0, hv0, hs0⟩ := R.val x d e0
        obtain ⟨a, ds, vs, h3, rfl, rfl, h6, h7⟩ := Fr.own_slot R hs0 ((at_.2.2.2 x).mpr ho)
        have e1 := at_.1
        refine ⟨.ref a, by rw [← e1]; exact hv0, .inl ⟨rfl, vs, SqL.of h6⟩, ?_⟩
        refine tE_mono (oneW (s := true) at_ R q) fun y H1 ⟨dy, w1, R1, k1, r1, q1⟩ => ?_
        have h6' : H1 a = some (.lst vs) := k1.k _ _ h6 (fun z => (R.new _ h3).2 (R.cupB a z)) noTbl_lst
        have h7' := R.reps k1 h7
        have q1 : WpS (S.w own) lo own c H Ds ((if ds.length < line then M.pure (.nx (c.env.set x (some (.lst (ds ++ [dy]))))) else M.no : M F) w1) := q1
        split at q1
        · rename_i hl
          obtain ⟨R2, T2⟩ := R1.write (ds := ds ++ [dy]) (vs := vs ++ [y]) h3 e0 (h7'.append (Reps.cons r1 Reps.nil))
          refine ⟨a, vs, y, rfl, rfl, h6', by rw [← h7.length, ← line_eq]; exact hl, ?_⟩
          have := q1 _ _ ((Tr.keep R k1).trans T2) rfl at_.2.2.2 R2
          rw [← e1]
          exact this
        · exact q1.elim
theorem ss_setI {x : Nat} {n : Str} {i : Expr} {p3 tpos : Pos} (hN : X.N[x]? = some n) (hv : Vis X.env.scope n) (hd : (n == ("__debug__" : Str)) = false) (hcd : (n == ("__classdict__" : Str)) = false) (ho : x ∈ own) (he : PE X e (tE (S.w own) true fe)) (hi : PE X i (tE (S.w own) false fi))
    (hs : swapsWithSole [.Subscript (.Name n p3) i tpos] e pos.line X.env = pure false) (ha : ∀ v, assign (.Subscript (.Name n p3) i tpos) X.env v = (do
      let ov ← holding [v] (eval (.Name n p3) X.env)
      let iv ← holding [v, ov] (eval i X.env)
      standAt tpos
      holding [v, ov, iv] (setItem ov iv v)
      release [v, ov, iv] [])) :
    PS X (.Assign [.Subscript (.Name n p3) i tpos] e pos) (tSt (S.w own) lo own fun env => M.bind (fe env) fun v => M.bind (getV env x) fun o => M.bind (fi env) fun k => setM x env o k v) :=
  PS.weak (ps_asg he (pg_sub (pe_var hN hv hd hcd) hi set_list ha) hs rfl rfl) fun Ds σ H ⟨c, w, at_, R, q⟩ => by
    refine tE_mono (oneW (s := true) at_ R q) fun y H1 ⟨dy, w1, R1, k1, r1, q1⟩ => ?_
    have q1 : WpS (S.w own) lo own c H Ds (M.bind (getV c.env x) (fun o => M.bind (fi c.env) fun k => setM x c.env o k dy) w1) := q1
    unfold getV at q1
    cases e0 : c.env[x]? with
    | none => rw [e0] at q1; exact q1.elim
    | some o =>
      cases o with
      | none => rw [e0] at q1; exact q1.elim
      | some d =>
        rw [e0] at q1
        have q1 : WpS (S.w own) lo own c H Ds (M.bind (fi c.env) (fun k => setM x c.env d k dy) w1) := q1
        have q1 := WpS.tr q1 (Tr.keep R k1)
        obtain ⟨v0, hv0, hs0⟩ := R1.val x d e0
        obtain ⟨a, ds, vs, h3, rfl, rfl, h6, h7⟩ := Fr.own_slot R1 hs0 ((at_.2.2.2 x).mpr ho)
        have e1 := at_.1
        refine ⟨.ref a, by rw [← e1]; exact hv0, tE_mono (oneW (s := false) at_ R1 q1) fun z H2 ⟨dz, w2, R2, k2, r2, q2⟩ => ?_⟩
        have h6' : H2 a = some (.lst vs) := k2.k _ _ h6 (fun z => (R1.new _ h3).2 (R1.cupB a z)) noTbl_lst
        have h7' := R1.reps k2 h7
        cases dz with
        | int j =>
          have q2 : WpS (S.w own) lo own c H1 Ds (M.bind (liftO ((VI.ixN ds.length j).map fun j => D.lst (ds.set j dy))) (fun o' => M.pure (F.nx (c.env.set x (some o')))) w2) := q2
          cases e2 : VI.ixN ds.length j with
          | none => rw [e2] at q2; exact q2.elim
          | some j' =>
            rw [e2] at q2
            obtain ⟨R3, T3⟩ := R2.write (ds := ds.set j' dy) (vs := vs.set j' y) h3 e0 (h7'.set j' (R1.rep k2 r1))
            refine ⟨a, vs, j, j', rfl, repS_int r2, h6', by rw [← h7.length, ← ixN_eq]; exact e2, ?_⟩
            have := q2 _ _ ((Tr.keep R1 k2).trans T3) rfl at_.2.2.2 R3
            rw [← e1]
            exact this
        | _ => exact q2.elim
/-- the shared list is written -/
theorem Rel.writeCup {g : Gb} {c : Fr} {w w' : List D} {H : Hp} {a : Addr} {vs : List V} (R : Rel g c w H) (hc : c.cup = some a) (hr : c.reps g H w' vs) : Rel g c w' (upd H a (.lst vs)) ∧ Tr c H c (upd H a (.lst vs)) := by
  have hb : c.bad a := R.badCup a hc
  have A : Agr c.bad H (upd H a (.lst vs)) := fun b u e nb _ => by rw [upd_ne (fun z => nb (by rw [z]; exact hb))]; exact e
  obtain ⟨ys, hp⟩ := R.lists a hb
  have hn : ∀ b, NoneT (upd H a (.lst vs)) b → NoneT H b := fun b e => by
    by_cases z : b = a
    · exact (e _ (by rw [z, upd_same]) noTbl_lst).elim
    · exact fun u eu => e u (by rw [upd_ne z]; exact eu)
  have K : Keep c.cup H (upd H a (.lst vs)) := ⟨fun b u e nb nt => by rw [upd_ne (fun z => nb (by rw [z]; exact hc))]; exact e, hn⟩
  refine ⟨R.after K (fun b z => ?_) (tabs_upd R.tabs hp), ⟨rfl, rfl, rfl, rfl, A, fun _ => .inl, hn⟩⟩
  rw [hc] at z; cases z
  exact ⟨vs, upd_same, Reps.mono A (fun _ => .inl) (fun _ => id) hr⟩
theorem ss_setC {x : Nat} {n : Str} {i : Expr} {p3 tpos : Pos} (hN : X.N[x]? = some n) (hv : Vis X.env.scope n) (hd : (n == ("__debug__" : Str)) = false) (hcd : (n == ("__classdict__" : Str)) = false) (ho : x ∉ own) (he : PE X e (tE (S.w own) true fe)) (hi : PE X i (tE (S.w own) false fi))
    (hs : swapsWithSole [.Subscript (.Name n p3) i tpos] e pos.line X.env = pure false) (ha : ∀ v, assign (.Subscript (.Name n p3) i tpos) X.env v = (do
      let ov ← holding [v] (eval (.Name n p3) X.env)
      let iv ← holding [v, ov] (eval i X.env)
      standAt tpos
      holding [v, ov, iv] (setItem ov iv v)
      release [v, ov, iv] [])) :
    PS X (.Assign [.Subscript (.Name n p3) i tpos] e pos) (tSt (S.w own) lo own fun env => M.bind (fe env) fun v => M.bind (getV env x) fun o => M.bind (fi env) fun k => setC env o k v) :=
  PS.weak (ps_asg he (pg_sub (pe_var hN hv hd hcd) hi set_list ha) hs rfl rfl) fun Ds σ H ⟨c, w, at_, R, q⟩ => by
    refine tE_mono (oneW (s := true) at_ R q) fun y H1 ⟨dy, w1, R1, k1, r1, q1⟩ => ?_
    have q1 : WpS (S.w own) lo own c H Ds (M.bind (getV c.env x) (fun o => M.bind (fi c.env) fun k => setC c.env o k dy) w1) := q1
    unfold getV at q1
    cases e0 : c.env[x]? with
    | none => rw [e0] at q1; exact q1.elim
    | some o =>
      cases o with
      | none => rw [e0] at q1; exact q1.elim
      | some d =>
        rw [e0] at q1
        have q1 : WpS (S.w own) lo own c H Ds (M.bind (fi c.env) (fun k => setC c.env d k dy) w1) := q1
        have q1 := WpS.tr q1 (Tr.keep R k1)
        obtain ⟨v0, hv0, hs0⟩ := R1.val x d e0
        have e1 := at_.1
        refine ⟨v0, by rw [← e1]; exact hv0, tE_mono (oneW (s := false) at_ R1 q1) fun z H2 ⟨dz, w2, R2, k2, r2, q2⟩ => ?_⟩
        cases d with
        | cup =>
          cases dz with
          | int j =>
            have hr0 : c.rep S.g H1 .cup v0 := by
              rcases hs0 with ⟨a, h3, _, ds, vs, h5, _⟩ | ⟨_, h4⟩
              · cases h5
              · exact h4
            obtain ⟨a, ha2, rfl⟩ := hr0
            obtain ⟨us, h6, h7⟩ := R2.cupOk a ha2
            have q2 : WpS (S.w own) lo own c H1 Ds (match VI.ixN w2.length j with | some j => .ok (.nx c.env) (w2.set j dy) | none => .no) := q2
            cases e2 : VI.ixN w2.length j with
            | none => rw [e2] at q2; exact q2.elim
            | some j' =>
              rw [e2] at q2
              obtain ⟨R3, T3⟩ := R2.writeCup (w' := w2.set j' dy) (vs := us.set j' y) ha2 (h7.set j' (R1.rep k2 r1))
              refine ⟨a, us, j, j', rfl, repS_int r2, h6, by rw [← h7.length, ← ixN_eq]; exact e2, ?_⟩
              have := q2 c _ ((Tr.keep R1 k2).trans T3) rfl at_.2.2.2 R3
              rw [← e1]
              exact this
          | _ => exact q2.elim
        | _ => cases dz <;> exact q2.elim
end
end VI
end
section
set_option maxRecDepth 100000
namespace VI
open PySem PySem.Spec PyProof.Rows L2
/-! ### new lists by names -/
section
variable {X : Cx} {S : Sg} {s : Bool} {a b e : Expr} {es : List Expr} {fa fb fe : Env → M D} {fs : Env → M (List D)} {pos p p2 : Pos}
theorem oneF {c : Fr} {w : List D} {H : Hp} {Q : VK} {f : D → M D} {σ : L2.St} {s : Bool} (ha : S.at c σ) (R : Rel S.g c w H) (h : WpF S c H Q (M.bind (fa c.env) f w)) :
    tE S s fa σ H fun x H1 => ∃ w1 d, Rel S.g c w1 H1 ∧ Keep c.cup H H1 ∧ c.repS s S.g H1 d x ∧ WpF S c H Q (f d w1) :=
  ⟨c, w, ha, R, (WpF.bind Keep.refl h).mono fun x H1 ⟨d, w1, R1, k1, q1, h1, _⟩ => ⟨w1, d, R1, k1, q1, h1⟩⟩
theorem oneAF {c : Fr} {w : List D} {H : Hp} {Q : VK} {f : List D → M D} {σ : L2.St} {s : Bool} (ha : S.at c σ) (R : Rel S.g c w H) (h : WpF S c H Q (M.bind (fs c.env) f w)) :
    tEs S s fs σ H fun x H1 => ∃ w1 d, Rel S.g c w1 H1 ∧ Keep c.cup H H1 ∧ c.repsS s S.g H1 d x ∧ WpF S c H Q (f d w1) ∧ fs c.env w = .ok d w1 :=
  ⟨c, w, ha, R, (WpF.bind Keep.refl h).mono fun x H1 ⟨d, w1, R1, k1, q1, h1, e⟩ => ⟨w1, d, R1, k1, q1, h1, e⟩⟩
theorem sf_lst {n : Nat} (h : PA X es (tEs S true fs)) (hl : Len fs n) (hn : n ≤ 1000) : PE X (.List es pos) (tEF S fun env => M.bind (fs env) fun xs => M.pure (.lst xs)) :=
  PE.weak (pe_lst h) fun σ H Q ⟨c, w, at_, R, q⟩ => tEs_mono (oneAF at_ R q) fun xs H1 ⟨w1, ds, R1, k1, h1, q1, e1⟩ => by
    have e2 := hl _ _ _ _ e1
    exact ⟨few_line h1.length (by omega), fun p hp => fin_lstF R1 k1 q1 h1.t hp⟩
/-- list + list, list * int -/
def isLstD : D → Bool
  | .lst _ => true
  | _ => false
def rBinF (S : Sg) (o : BOp) : R2 := fun x y H Q => ∃ c w dx dy dz H0, Rel S.g c w H ∧ Keep c.cup H0 H ∧ c.repS false S.g H dx x ∧ c.repS false S.g H dy y ∧ isLstD dx = true ∧ binD o dx dy = some dz ∧ WpF S c H0 Q (.ok dz w)
theorem opdF : OpR X (binaryOp (opOf o)) (rBinF S o) := by
  intro pins sh σ H x y v u Q I rx ry h
  obtain ⟨c, w, dx, dy, dz, H0, R, k0, hx, hy, el, e, q⟩ := h
  unfold binD at e
  split at e <;> first | contradiction | skip
  · obtain ⟨a, xs, rfl, h1, h2⟩ := repS_lst hx
    obtain ⟨b, ys, rfl, h3, h4⟩ := repS_lst hy
    split at e
    · rename_i ds es hz
      cases e
      exact op_cat pins sh σ H _ _ v u Q I rx ry ⟨a, b, xs, ys, rfl, rfl, h1, h3, by rw [← h2.length, ← h4.length, ← line_eq]; exact hz, fun p hp => fin_lstF R k0 q (h2.append h4) hp⟩
    · cases e
  · obtain ⟨a, xs, rfl, h1, h2⟩ := repS_lst hx
    cases repS_int hy
    split at e
    · rename_i ds k hz
      cases e
      rw [Bool.and_eq_true] at hz
      obtain ⟨z1, z2⟩ := hz
      obtain ⟨z3, z4⟩ := small_iff z1
      have z5 := of_decide_eq_true z2
      exact op_rep pins sh σ H _ _ v u Q I rx ry ⟨a, k, xs, rfl, rfl, h1, by omega, by omega, by rw [← h2.length, ← line_eq]; exact z5, fun p hp => fin_lstF R k0 q (h2.rep _) hp⟩
    · cases e
theorem sf_bin {o : BOp} (hK : X.K = S.g.K) (ho : o = .add ∨ o = .mul) (hlst : ∀ env w dx w1 dy w2 dz, fa env w = .ok dx w1 → fb env w1 = .ok dy w2 → binD o dx dy = some dz → isLstD dx = true) (ha : PE X a (tE S false fa)) (hb : PE X b (tE S false fb)) : PE X (.BinOp a (opOf o) b pos) (tEF S fun env => M.bind (fa env) fun x => M.bind (fb env) fun y => liftO (binD o x y)) :=
  PE.weak (pe_op (opdF (o := o)) ha hb) fun σ H Q ⟨c, w, at_, R, q⟩ => ⟨c, w, at_, R, (WpF.bind Keep.refl q).mono fun x H1 ⟨dx, w1, R1, k1, q1, h1, e1⟩ =>
    ⟨c, w1, at_, R1, (WpF.bind k1 h1).mono fun y H2 ⟨dy, w2, R2, k2, q2, h2, e2⟩ => by
      cases e : binD o dx dy with
      | none => rw [e] at h2; exact h2.elim
      | some dz =>
        rw [e] at h2
        exact ⟨c, w2, dx, dy, dz, H, R2, k1.trans k2, R1.repS k2 q1, q2, hlst _ _ _ _ _ _ _ e1 e2 e, e, h2⟩⟩⟩
/-- list(x) -/
theorem sf_list (hg : Gl X "list") (hm : X.mg "list" = none) (hK : X.K = S.g.K) (ha : PA X [a] (tEs S false fs)) (hl : Len fs 1)
    (he : starEach [a] X.env = (false, eval a X.env) :: starEach [] X.env) (hpl : (backTo pos (starEach [] X.env)).any (·.1) = false) : PE X (.Call (.Name "list" p) [a] [] pos) (tEF S fun env => M.bind (fs env) fun xs => liftO (biD .list xs)) := by
  have hcall : CallR X (.type "list") fun xs H Q => ∃ c w H0 ds dz, Rel S.g c w H ∧ Keep c.cup H0 H ∧ c.repsS false S.g H ds xs ∧ biD .list ds = some dz ∧ WpF S c H0 Q (.ok dz w) := by
    intro pins sh σ H xs us Q I r h
    obtain ⟨c, w, H0, ds, dz, R, k0, h1, e, q⟩ := h
    unfold biD at e
    split at e <;> first | contradiction | skip
    obtain ⟨x, rfl, hx⟩ := reps1 h1
    obtain ⟨zs, e1, rfl⟩ := Option.map_eq_some_iff.mp e
    obtain ⟨a, vs, rfl, h2, h3⟩ := repS_seq hx e1
    refine call_list_of pins sh σ H _ us Q I r ⟨a, vs, rfl, ?_, fun p hp => fin_lstF R k0 q h2 hp⟩
    rcases h3 with ⟨_, h3⟩ | ⟨_, h3⟩
    · exact .inl (SqL.of h3)
    · exact .inr (by rw [hK]; exact h3.sq)
  refine PE.weak (pe_callTy hcall hg hm (by rfl) ha (by decide) (by rfl) he hpl) fun σ H Q ⟨c, w, at_, R, q⟩ => tEs_mono (oneAF at_ R q) fun xs H1 ⟨w1, ds, R1, k1, h1, q1, e1⟩ => ?_
  cases e : biD .list ds with
  | none => rw [e] at q1; exact q1.elim
  | some dz => rw [e] at q1; exact ⟨c, w1, H, ds, dz, R1, k1, h1, e, q1⟩
end
/-! ### assignments that take a new list as their own -/
theorem adopt {g : Gb} {c2 : Fr} {b1 : Addr → Prop} {w : List D} {H : Hp} {p : Addr} {i : Nat} {ds : List D} {us : List V} (R : Rel g c2 w H) (hb : ∀ a, c2.b0 a ↔ b1 a ∨ a = p) (hn : ¬ b1 p) (hp : H p = some (.lst us)) (hr : c2.reps g H ds us) (hi : i ∉ c2.Own.map (·.1)) (ha : p ∉ c2.Own.map (·.2)) (h0 : NoneT c2.H0 p) (hc : c2.cup ≠ some p) :
    Rel g { c2 with b0 := b1, Own := (i, p) :: c2.Own, env := c2.env.set i (some (.lst ds)), σ := c2.σ.set i (some (.ref p)) } w H := by
  have hbad : ∀ a, Fr.bad { c2 with b0 := b1, Own := (i, p) :: c2.Own, env := c2.env.set i (some (.lst ds)), σ := c2.σ.set i (some (.ref p)) } a → c2.bad a := fun a z => by
    rcases z with z | z
    · exact .inl ((hb a).mpr (.inl z))
    · rcases List.mem_cons.mp z with z | z
      · exact .inl ((hb a).mpr (.inr z))
      · exact .inr z
  have A : Agr c2.bad H H := fun _ _ h _ _ => h
  exact {
    len := by simp [R.len]
    ground := R.ground
    lists := fun a z => R.lists a (hbad a z)
    cupB := fun a z => ((hb a).mp (R.cupB a z)).elim id fun e => absurd (by rw [← e]; exact z) hc
    new := fun q hq => by
      rcases List.mem_cons.mp hq with e | e
      · rw [e]; exact ⟨h0, hn⟩
      · exact ⟨(R.new q e).1, fun z => (R.new q e).2 ((hb _).mpr (.inl z))⟩
    cupOk := fun a z => by
      obtain ⟨vs, e, q⟩ := R.cupOk a z
      exact ⟨vs, e, Reps.mono A (fun a z => .inl (hbad a z)) (fun _ => id) q⟩
    ndS := by rw [List.map_cons, List.nodup_cons]; exact ⟨hi, R.ndS⟩
    ndA := by rw [List.map_cons, List.nodup_cons]; exact ⟨ha, R.ndA⟩
    val := fun j d e => by
      have hlen := R.len
      by_cases hj : i = j
      · subst hj
        by_cases hl : i < c2.env.length
        · have e : (c2.env.set i (some (.lst ds)))[i]? = some (some d) := e
          rw [List.getElem?_set_self hl] at e
          cases e
          exact ⟨.ref p, List.getElem?_set_self (by omega), .inl ⟨p, List.mem_cons_self, rfl, ds, us, rfl, hp, Reps.mono A (fun a z => .inl (hbad a z)) (fun _ => id) hr⟩⟩
        · have e : (c2.env.set i (some (.lst ds)))[i]? = some (some d) := e
          rw [List.getElem?_eq_none (by simpa using hl)] at e; cases e
      · have e : (c2.env.set i (some (.lst ds)))[j]? = some (some d) := e
        rw [List.getElem?_set_ne hj] at e
        obtain ⟨v, h1, h2⟩ := R.val j d e
        refine ⟨v, by rw [← h1]; exact List.getElem?_set_ne hj, ?_⟩
        rcases h2 with ⟨a, h3, h4, ds', vs, h5, h6, h7⟩ | ⟨h3, h4⟩
        · exact .inl ⟨a, List.mem_cons_of_mem _ h3, h4, ds', vs, h5, h6, Reps.mono A (fun a z => .inl (hbad a z)) (fun _ => id) h7⟩
        · exact .inr ⟨fun z => by
            rw [List.map_cons] at z
            rcases List.mem_cons.mp z with z | z
            · exact hj z.symm
            · exact h3 z, Rep.mono A (fun a z => .inl (hbad a z)) (fun _ => id) h4⟩
    tabs := R.tabs }
section
variable {X : Cx} {S : Sg} {lo own : List Nat} {a e tg : Expr} {es : List Expr} {fe : Env → M D} {fs : Env → M (List D)} {pos p p2 : Pos} {i : Nat}
theorem asgF_core {c : Fr} {w : List D} {H : Hp} {Ds : Ends} {σ : L2.St} (at_ : (S.w own).at c σ) (R : Rel S.g c w H) (hi : i ∉ own)
    (q : WpS (S.w own) lo (i :: own) c H Ds (M.bind (fe c.env) (fun d => M.bind (liftO (bindT (.nm i) d c.env)) fun env' => M.pure (.nx env')) w))
    (hlst : ∀ d w', fe c.env w = .ok d w' → isLstD d = true) :
    WpF (S.w own) c H (fun x H1 => Ds.nx (σ.set i (some x)) H1) (fe c.env w) := by
  unfold M.bind at q
  cases e : fe c.env w with
  | ok d w1 =>
    have h := hlst d w1 e
    rw [e] at q
    cases d with
    | lst ds =>
      intro p H' vs hp R' k' hp' hr'
      have q : WpS (S.w own) lo (i :: own) c H Ds (.ok (.nx (c.env.set i (some (.lst ds)))) w1) := q
      have nb : ¬ c.bad p := fun z => by
        obtain ⟨xs, ex⟩ := R.lists p z
        exact hp _ ex noTbl_lst
      have R2 := adopt (b1 := c.b0) (i := i) R' (fun a => Iff.rfl) (fun z => nb (.inl z)) hp' hr' (fun z => hi ((at_.2.2.2 i).mp z)) (fun z => nb (.inr z)) (R.ground.al p hp) (fun z => nb (.inl (R.cupB p z)))
      rw [← at_.1]
      refine q { c with Own := (i, p) :: c.Own, env := c.env.set i (some (.lst ds)), σ := c.σ.set i (some (.ref p)) } H' ⟨rfl, rfl, rfl, rfl, R.agr k', fun a z => ?_, k'.al⟩ rfl (fun j => ?_) R2
      · rcases z with z | z
        · exact .inl (.inl z)
        · rcases List.mem_cons.mp z with z | z
          · exact .inr (by rw [z]; exact hp)
          · exact .inl (.inr z)
      · show j ∈ ((i, p) :: c.Own).map (·.1) ↔ j ∈ i :: own
        rw [List.map_cons, List.mem_cons, List.mem_cons, at_.2.2.2 j]
    | _ => cases h
  | ex k w1 => rw [e] at q; exact fun H1 R1 k1 => q H1 R1.ground R1.cup0 R1.tabs
  | no => rw [e] at q; exact q
/-- name = a new list -/
theorem ss_asgF {x : Str} {px : Pos} (hN : X.N.Nodup) (hx : X.N[i]? = some x) (hxl : X.env.scope.names.lookup x = some .local) (hlst : ∀ env w d w', fe env w = .ok d w' → isLstD d = true) (he : PE X e (tEF (S.w own) fe)) (hi : i ∉ own) (hs : swapsWith e (some (.Name x px)) pos.line X.env = pure false) :
    PS X (.Assign [.Name x px] e pos) (tSt (S.w own) lo (i :: own) fun env => M.bind (fe env) fun d => M.bind (liftO (bindT (.nm i) d env)) fun env' => M.pure (.nx env')) :=
  PS.weak (ps_set hN hx (.inl hxl) he hs (.inr hxl)) fun Ds σ H ⟨c, w, at_, R, q⟩ => ⟨c, w, at_, R, asgF_core at_ R hi q fun d w' => hlst _ _ _ _⟩
end
end VI
end
section
set_option maxRecDepth 100000
namespace VI
open PySem PySem.Spec PyProof.Rows L2
/-! ### pairs -/
section
variable {g : Gb} {c : Fr} {w : List D} {H : Hp} {s : Bool}
/-- a rep of an item stays at a later turn, in a new pair -/
theorem yok_pair {ps : List D} {fx fy : Nat → Option V} {i : Nat} {H' H'' : Hp} {v : V} (k : Agr c.bad H H') (hp : ∀ d, ps[i]? = some d → ∃ d1 d2 x y, d = .tup [d1, d2] ∧ fx i = some x ∧ fy i = some y ∧ c.rep g H d1 x ∧ c.rep g H d2 y) (y : YPair fx fy i H' v H'') : YOk g c H ps i H' v H'' := by
  obtain ⟨T, a, b, rfl, hT, rfl, hx, hy⟩ := y
  refine ⟨.inr ⟨T, _, hT, rfl⟩, fun c' e1 e2 e3 d e => ?_⟩
  obtain ⟨d1, d2, x, y, rfl, hx', hy', r1, r2⟩ := hp d e
  rw [hx] at hx'; cases hx'
  rw [hy] at hy'; cases hy'
  have up : ∀ {d : D} {u : V}, c.rep g H d u → c'.rep g (upd H' T (.tup [a, b])) d u := fun {d u} r => by
    have A : Agr c.bad H (upd H' T (.tup [a, b])) := fun p o hp nb nt => by
      rw [upd_ne (ne_of_none (k p o hp nb nt) hT)]
      exact k p o hp nb nt
    exact Rep.mono A e2 (fun a z => by rw [e1]; exact z) r
  refine ⟨T, [a, b], rfl, .inl ⟨upd_same, fun z => ?_⟩, ?_⟩
  · obtain ⟨xs, q⟩ := e3 T z
    rw [hT] at q; cases q
  · exact Reps.cons (up r1) (Reps.cons (up r2) Reps.nil)
theorem it_pair {J : It} {ps : List D} {fx fy : Nat → Option V} {G : Hp → Prop} {n : Nat} (hn : n = ps.length) (R : Rel g c w H) (W : Walk J n G (YPair fx fy)) (hp : ∀ i d, ps[i]? = some d → ∃ d1 d2 x y, d = .tup [d1, d2] ∧ fx i = some x ∧ fy i = some y ∧ c.rep g H d1 x ∧ c.rep g H d2 y)
    (hs : s = true → ∀ H', Agr c.bad H H' → G H') (hw : ∀ H', Keep c.cup H H' → G H') : ItS s g c H ps J := by
  subst hn
  cases s with
  | true => exact ⟨G, _, W, hs rfl, fun i H' v H'' k y => yok_pair k (hp i) y⟩
  | false => exact ⟨G, _, W, hw, fun i H' v H'' k y => yok_pair (R.agr k) (hp i) y⟩
theorem walk_zipTT {K : PySem.W.Frag} {a b : Addr} {xs ys : List V} : Walk (RZ.ItzT K a b) (min xs.length ys.length) (fun H => SqT K H a xs ∧ SqT K H b ys) (YPair (fun i => xs[i]?) (fun i => ys[i]?)) where
  goes := fun i H hi q => ⟨xs, ys, xs[i]'(by omega), ys[i]'(by omega), q.1, q.2, List.getElem?_eq_getElem _, List.getElem?_eq_getElem _⟩
  stops := fun H q => ⟨xs, ys, q.1, q.2, by omega⟩
  yields := fun i H v H' hi q y => by
    obtain ⟨T, x, z, e1, e2, e3, e4, e5⟩ := y
    exact ⟨T, x, z, e1, e2, e3, e4 xs q.1, e5 ys q.2⟩
theorem zip_get {xs ys : List D} {vs us : List V} (h1 : c.reps g H xs vs) (h2 : c.reps g H ys us) (i : Nat) (d : D) (e : ((xs.zip ys).map fun p => D.tup [p.1, p.2])[i]? = some d) : ∃ d1 d2 x y, d = .tup [d1, d2] ∧ vs[i]? = some x ∧ us[i]? = some y ∧ c.rep g H d1 x ∧ c.rep g H d2 y := by
  rw [List.getElem?_map, Option.map_eq_some_iff] at e
  obtain ⟨p, e1, rfl⟩ := e
  rw [List.getElem?_zip_eq_some] at e1
  obtain ⟨x, hx, r1⟩ := h1.get e1.1
  obtain ⟨y, hy, r2⟩ := h2.get e1.2
  exact ⟨p.1, p.2, x, y, rfl, hx, hy, r1, r2⟩
theorem enum_get {xs : List D} {vs : List V} (h1 : c.reps g H xs vs) (i : Nat) (d : D) (e : (xs.zipIdx.map fun p => D.tup [.int (p.2 : Nat), p.1])[i]? = some d) : ∃ d1 d2 x y, d = .tup [d1, d2] ∧ some (V.int (i : Nat)) = some x ∧ vs[i]? = some y ∧ c.rep g H d1 x ∧ c.rep g H d2 y := by
  rw [List.getElem?_map, Option.map_eq_some_iff] at e
  obtain ⟨p, e1, rfl⟩ := e
  rw [List.getElem?_zipIdx, Option.map_eq_some_iff] at e1
  obtain ⟨a, e2, rfl⟩ := e1
  obtain ⟨y, hy, r2⟩ := h1.get e2
  exact ⟨.int ((0 + i : Nat) : Int), a, .int (i : Nat), y, rfl, rfl, hy, by rw [Nat.zero_add]; rfl, r2⟩
end
section
variable {X : Cx} {S : Sg} {s : Bool} {a b tg : Expr} {elts : List Expr} {kk : Nat} {tpos : Pos} {fs : Env → M (List D)} {pos p : Pos}
def eBi (b : Bi) (fs : Env → M (List D)) : Env → M D := fun env => M.bind (fs env) fun xs => liftO (biD b xs)
theorem walk_bi (b : Bi) (f : Env → M (List D)) (env : Env) : M.bind (eBi b f env) walkD = M.bind (f env) fun xs => liftO ((biD b xs).bind isSeq) := by
  unfold eBi
  rw [M.bind_assoc]
  congr 1; funext xs
  cases biD b xs <;> rfl
theorem si_zip (hK : X.K = S.g.K) (hg : Gl X "zip") (hm : X.mg "zip" = none) (ha : PA X [a, b] (tEs S s fs)) (hs : starEach [a, b] X.env = (false, eval a X.env) :: starEach [b] X.env) (hpl : (backTo pos (starEach [b] X.env)).any (·.1) = false) :
    PI X (.Tuple elts kk tpos) (.Call (.Name "zip" p) [a, b] [] pos) (tI S s fun env => M.bind (eBi .zip fs env) walkD) :=
  PI.weak (RZ.pi_zipA hg hm ha hs hpl) fun σ H R ⟨c, w, at_, Rl, q⟩ => by
    simp only [walk_bi] at q
    refine tEs_mono (oneA at_ Rl q) fun us H1 ⟨w1, ds, R1, k1, h1, q1, e1⟩ => ?_
    obtain ⟨ps, e, q2⟩ := q1.lift
    obtain ⟨d, e2, e3⟩ := Option.bind_eq_some_iff.mp e
    unfold biD at e2
    split at e2 <;> first | contradiction | skip
    all_goals
      obtain ⟨x', ws, rfl, hx, h1⟩ := h1
      obtain ⟨y', ws', rfl, hy, h1⟩ := h1
      cases h1
      cases e2
      cases e3
    · rename_i xs ys _
      obtain ⟨a, vs, rfl, h2, h3⟩ := repS_lst (Fr.repS.w R1 hx)
      obtain ⟨b, us, rfl, h4, h5⟩ := repS_lst (Fr.repS.w R1 hy)
      refine ⟨a, b, vs, us, rfl, .inl ⟨SqL.of h2, SqL.of h4, q2 H1 _ R1 Keep.refl (it_pair (n := min vs.length us.length) (by rw [List.length_map, List.length_zip, h3.length, h5.length]) R1 (walk_zip rfl) (zip_get h3 h5) (fun hs H' k => ?_) fun H' k => ?_)⟩⟩
      · subst hs
        obtain ⟨a', vs', z1, z2, z3, _⟩ := hx
        cases z1
        obtain ⟨b', us', y1, y2, y3, _⟩ := hy
        cases y1
        exact ⟨SqL.of (k _ _ h2 z3 noTbl_lst), SqL.of (k _ _ h4 y3 noTbl_lst)⟩
      · exact ⟨SqL.of (k.k _ _ h2 ((Fr.repS.w R1 hx).2 a _ rfl rfl) noTbl_lst), SqL.of (k.k _ _ h4 ((Fr.repS.w R1 hy).2 b _ rfl rfl) noTbl_lst)⟩
    · rename_i xs ys _
      obtain ⟨a, vs, rfl, h2, h3⟩ := repS_tup (Fr.repS.w R1 hx)
      obtain ⟨b, us, rfl, h4, h5⟩ := repS_tup (Fr.repS.w R1 hy)
      rw [hK]
      refine ⟨a, b, vs, us, rfl, .inr ⟨h2.sq, h4.sq, q2 H1 _ R1 Keep.refl (it_pair (n := min vs.length us.length) (by rw [List.length_map, List.length_zip, h3.length, h5.length]) R1 walk_zipTT (zip_get h3 h5) (fun _ H' k => ?_) fun H' k => ?_)⟩⟩
      · exact ⟨(k.tupAt (fun _ => .inl) h2).sq, (k.tupAt (fun _ => .inl) h4).sq⟩
      · exact ⟨((R1.agr k).tupAt (fun _ => .inl) h2).sq, ((R1.agr k).tupAt (fun _ => .inl) h4).sq⟩
theorem si_enum (hK : X.K = S.g.K) (hg : Gl X "enumerate") (hm : X.mg "enumerate" = none) (ha : PA X [a] (tEs S s fs)) (hs : starEach [a] X.env = [(false, eval a X.env)]) :
    PI X (.Tuple elts kk tpos) (.Call (.Name "enumerate" p) [a] [] pos) (tI S s fun env => M.bind (eBi .enum fs env) walkD) :=
  PI.weak (pi_enum hg hm ha hs) fun σ H R ⟨c, w, at_, Rl, q⟩ => by
    simp only [walk_bi] at q
    refine tEs_mono (oneA at_ Rl q) fun us H1 ⟨w1, ds, R1, k1, h1, q1, e1⟩ => ?_
    obtain ⟨ps, e, q2⟩ := q1.lift
    obtain ⟨d, e2, e3⟩ := Option.bind_eq_some_iff.mp e
    unfold biD at e2
    split at e2 <;> first | contradiction | skip
    rename_i xs _
    obtain ⟨x', ws, rfl, hx, h1⟩ := h1
    cases h1
    cases e2
    cases e3
    obtain ⟨a, vs, rfl, h2, h3⟩ := repS_lst (Fr.repS.w R1 hx)
    refine ⟨a, vs, rfl, SqL.of h2, q2 H1 _ R1 Keep.refl (it_pair (n := vs.length) (by rw [List.length_map, List.length_zipIdx, h3.length]) R1 walk_enum (enum_get h3) (fun hs H' k => ?_) fun H' k => ?_)⟩
    · subst hs
      obtain ⟨a', vs', z1, z2, z3, _⟩ := hx
      cases z1
      exact SqL.of (k _ _ h2 z3 noTbl_lst)
    · exact SqL.of (k.k _ _ h2 ((Fr.repS.w R1 hx).2 a _ rfl rfl) noTbl_lst)
end
end VI
end
section
set_option maxRecDepth 100000
namespace VI
open PySem PySem.Spec PyProof.Rows L2
section
variable {X : Cx} {S : Sg} {s : Bool} {b : Expr} {fb : Env → M D} {pos apos cpos p p2 p3 : Pos}
theorem reps_strs {c : Fr} {H : Hp} : ∀ {ds : List D} {vs : List V} {ns : List Str}, c.reps S.g H ds vs → strsD ds = some ns → vs = ns.map V.str
  | [], _, _, h, e => by cases h; cases e; rfl
  | d :: ds, vs, ns, h, e => by
    obtain ⟨v, ws, rfl, h2, h3⟩ := h
    cases d with
    | str i =>
      have e : (strsD ds).map (i :: ·) = some ns := e
      obtain ⟨ms, e1, rfl⟩ := Option.map_eq_some_iff.mp e
      rw [reps_strs h3 e1]
      cases h2
      rfl
    | _ => cases e
/-- 'sep'.join(list) -/
theorem se_join {z : Str} {j : Nat} (hb : PE X b (tE S false fb)) (hst : starEach [b] X.env = (false, eval b X.env) :: starEach [] X.env) (hl : (apos.endLine == cpos.line) = true) : PE X (.Call (.Attribute (.Constant (.str z) j p) "join" apos) [b] [] cpos) (tE S s fun env => M.bind (M.pure (.str z)) fun x => M.bind (fb env) fun y => liftO (joinD x y)) :=
  PE.weak (pe_bm PySem.F.plainAttrs_str PySem.F.slot_str_join PySem.F.type_str_join mt_join pe_str (pa_cons hb pa_nil hst) rfl (by rw [hst]; rfl) hl hst rfl) fun σ H Q ⟨c, w, at_, R, q⟩ => by
    refine ⟨rfl, ?_⟩
    have q : Wp S.g c S.EX (M.bind (fb c.env) fun y => liftO (joinD (.str z) y)) (c.repS s S.g) w H Q := q
    refine tE_mono (one at_ R q) fun y H1 ⟨w1, dy, R1, k1, h1, q1⟩ => ?_
    obtain ⟨dz, e, q2⟩ := q1.lift
    cases dy with
    | lst xs =>
      have e : ((strsD xs).bind fun ys => if (ys.map (·.length)).sum + ys.length * z.length ≤ line then some (D.str (Txt.join z ys)) else none) = some dz := e
      obtain ⟨ys, e1, e2⟩ := Option.bind_eq_some_iff.mp e
      split at e2
      · rename_i hz
        cases e2
        obtain ⟨a, vs, rfl, h2, h3⟩ := repS_lst h1
        have h4 := reps_strs h3 e1
        subst h4
        exact ⟨z, a, ys, rfl, rfl, .inl (SqL.of h2), hz, q2 _ _ R1 Keep.refl (Fr.rep.s (d := .str (Txt.join z ys)) R1 rfl s)⟩
      · cases e2
    | _ => cases e
/-- isinstance(e, C), e the exception that the suite holds -/
theorem se_isx {i k0 : Nat} {a0 C : Addr} {ks : List Nat} {e x : Str} {s : Bool} (hex : S.g.ex = some (k0, a0)) (hcall : CallR X (.builtin "isinstance") (rIsE X.K (S.g.ca k0) a0)) (hk : PySem.W.kitOne X.K (.ref (S.g.ca k0)) (.ref C) = some (ks.contains k0))
    (hN : X.N[i]? = some e) (hv : Vis X.env.scope e) (hd : (e == ("__debug__" : Str)) = false) (hcd : (e == ("__classdict__" : Str)) = false) (hg : Gl X "isinstance") (hm : X.mg "isinstance" = none) (hg2 : Gl X x) (hm2 : X.mg x = some (.ref C)) (hdx : (x == ("__debug__" : Str)) = false) :
    PE X (.Call (.Name "isinstance" p) [.Name e p2, .Name x p3] [] pos) (tE S s fun env => M.bind (getV env i) fun y => match y with | .exn k => M.pure (.bl (ks.contains k)) | _ => M.no) :=
  PE.weak (pe_callB hcall hg hm (by rfl) (pa_cons (pe_var hN hv hd hcd) (pa_cons (pe_glob (v := .ref C) hg2 hm2 rfl hdx) pa_nil)) (by decide) (by rfl)) fun σ H Q ⟨c, w, at_, R, q⟩ => by
    have q : Wp S.g c S.EX (M.bind (getV c.env i) fun y => match y with | .exn k => M.pure (.bl (ks.contains k)) | _ => M.no) (c.repS s S.g) w H Q := q
    unfold getV at q
    split at q
    · rename_i d e0
      obtain ⟨v, h1, h2⟩ := R.val i d e0
      cases d with
      | exn k =>
        have h3 : ∃ a, S.g.ex = some (k, a) ∧ v = .ref a := by
          rcases h2 with ⟨a, _, _, ds, vs, h5, _⟩ | ⟨_, h4⟩
          · cases h5
          · exact h4
        obtain ⟨a, h4, rfl⟩ := h3
        rw [hex] at h4
        cases h4
        have q : Wp S.g c S.EX (M.pure (.bl (ks.contains k0))) (c.repS s S.g) w H Q := q
        refine ⟨.ref a0, by rw [← at_.1]; exact h1, .ref C, .ref C, ks.contains k0, rfl, fun u hu => hu, hk, q.pure R (Fr.rep.s (d := .bl (ks.contains k0)) R rfl s)⟩
      | _ => exact q.elim
    · exact q.elim
end
end VI
end
section
set_option maxRecDepth 100000
set_option maxHeartbeats 2000000
namespace VI
open PySem PySem.Spec PyProof.Rows L2 L2H HotX
/-! ### comprehensions while an exception is handled -/
section
variable {prog : Program} {w : World} {A : Around} {E : Value → Shared → Prop} {s : Shared}
/-- a list's iterator at its end -/
theorem endL_hot {j q y : Addr} {n : Nat} {its : Array Value} {R : Option Value → Shared → Prop} (hy : HotAt A y s.heap) (hj : s.heap.IsListIter j q n) (hq : s.heap.IsList q its) (hn : its[n]? = none) (hyj : y ≠ j)
    (fin : ∀ g, Heap.ExtBut j s.heap g → R none { s with heap := g }) : wpAny (model prog w) A (pyNext (.ref j)) R E s := by
  obtain ⟨oj, gj, cj, dj⟩ := id hj
  obtain ⟨oq, gq, _, mq, dq⟩ := hq
  obtain ⟨hA, oy, vy, gy, dy, cy⟩ := hy
  unfold pyNext
  refine wpAny_bind (wpAny_attempt (wpAny_callSpecial?_slot (name := Str.ofString "__next__") hj.typeIs slot_listiter_next (wpAny_call_entry slot_listiter_next hj.typeIs entry_listiter_next ?_ (args_listiter_next _))))
  show wpAny (model prog w) A.in1 (field (.ref j) 0 >>= _) _ _ s
  refine wpAny_bind (wpAny_field gj dj (x := .ref q) rfl ?_)
  show wpAny (model prog w) A.in1 (if (Value.ref q == Value.none) = true then _ else _) _ _ s
  rw [if_neg (show ¬ (Value.ref q == Value.none) = true from fun z => by cases z)]
  show wpAny (model prog w) A.in1 (field (.ref j) 1 >>= _) _ _ s
  refine wpAny_bind (wpAny_field gj dj (x := .int n 0) rfl ?_)
  show wpAny (model prog w) A.in1 (seqItems? (.ref q) >>= _) _ _ s
  refine wpAny_bind (wpAny_seqItems gq dq ?_)
  simp only [Int.toNat_natCast, hn]
  refine wpAny_bind (wpAny_rule (wpAny_bind (wpAny_setField gj dj (by simp) ?_)))
  show wpAny (model prog w) A.in1 (newExc (.type "StopIteration") [] >>= _) _ _ _
  refine wpAny_bind ?_
  simp only [newExc, newTuple]
  refine wpAny_bind (wpAny_newObj_type ?_ (by size_fits))
  refine wpAny_bind (m := firstArgMember _ _) (wpAny_of_eq (a := Value.none) (by first | rfl | (simp only [firstArgMember]; rfl)) ?_)
  refine wpAny_newObj_type ?_ (by size_fits)
  have g3 := Heap.get?_push_of_some { cls := .type "tuple", data := .seq ([] : List Value).toArray } ((Heap.get?_update_other s.heap (Obj.mapFields (·.setIfInBounds 0 .none)) (Ne.symm hyj)).trans gy)
  refine raiseNew_hot (x1 := y) ⟨hA, oy, vy, Heap.get?_push_of_some _ g3, dy, cy⟩ (Nat.ne_of_lt (Heap.lt_size g3)) (Heap.get?_push_size _ rfl) rfl (by first | (simp; done) | (simp; omega) | (simp only [Array.size_append]; simp; omega)) ?_
  refine wpAny_bind (wpAny_isInstance (T := "StopIteration") (b := true) ⟨_, Heap.get?_update_self _ (Heap.get?_push_size _ rfl) rfl, rfl⟩ isSubtype_stop (wpAny_pure (fin _ fun b o hb e => ?_)))
  have e2 := (Heap.get?_update_other s.heap (Obj.mapFields (·.setIfInBounds 0 .none)) (Ne.symm hb)).trans e
  have e3 := Heap.get?_push_of_some { cls := .type "tuple", data := .seq ([] : List Value).toArray } e2
  rw [Heap.get?_update_other _ _ (Nat.ne_of_gt (Heap.lt_size e3))]
  exact Heap.get?_push_of_some _ e3
/-- a tuple's iterator at its end -/
theorem endT_hot {j q y : Addr} {n : Nat} {its : Array Value} {R : Option Value → Shared → Prop} (hy : HotAt A y s.heap) (hj : IsTupIter s.heap j q n) (hq : IsTup s.heap q its) (hn : its[n]? = none) (hyj : y ≠ j)
    (fin : ∀ g, Heap.ExtBut j s.heap g → R none { s with heap := g }) : wpAny (model prog w) A (pyNext (.ref j)) R E s := by
  obtain ⟨oj, gj, cj, dj⟩ := id hj
  obtain ⟨oq, gq, _, mq, dq⟩ := hq
  obtain ⟨hA, oy, vy, gy, dy, cy⟩ := hy
  unfold pyNext
  refine wpAny_bind (wpAny_attempt (wpAny_callSpecial?_slot (name := Str.ofString "__next__") hj.typeIs slot_tupleiter_next (wpAny_call_entry slot_tupleiter_next hj.typeIs entry_tupleiter_next ?_ (args_tupleiter_next _))))
  show wpAny (model prog w) A.in1 (field (.ref j) 0 >>= _) _ _ s
  refine wpAny_bind (wpAny_field gj dj (x := .ref q) rfl ?_)
  show wpAny (model prog w) A.in1 (if (Value.ref q == Value.none) = true then _ else _) _ _ s
  rw [if_neg (show ¬ (Value.ref q == Value.none) = true from fun z => by cases z)]
  show wpAny (model prog w) A.in1 (field (.ref j) 1 >>= _) _ _ s
  refine wpAny_bind (wpAny_field gj dj (x := .int n 0) rfl ?_)
  show wpAny (model prog w) A.in1 (seqItems? (.ref q) >>= _) _ _ s
  refine wpAny_bind (wpAny_seqItems gq dq ?_)
  simp only [Int.toNat_natCast, hn]
  refine wpAny_bind (wpAny_rule (wpAny_bind (wpAny_setField gj dj (by simp) ?_)))
  show wpAny (model prog w) A.in1 (newExc (.type "StopIteration") [] >>= _) _ _ _
  refine wpAny_bind ?_
  simp only [newExc, newTuple]
  refine wpAny_bind (wpAny_newObj_type ?_ (by size_fits))
  refine wpAny_bind (m := firstArgMember _ _) (wpAny_of_eq (a := Value.none) (by first | rfl | (simp only [firstArgMember]; rfl)) ?_)
  refine wpAny_newObj_type ?_ (by size_fits)
  have g3 := Heap.get?_push_of_some { cls := .type "tuple", data := .seq ([] : List Value).toArray } ((Heap.get?_update_other s.heap (Obj.mapFields (·.setIfInBounds 0 .none)) (Ne.symm hyj)).trans gy)
  refine raiseNew_hot (x1 := y) ⟨hA, oy, vy, Heap.get?_push_of_some _ g3, dy, cy⟩ (Nat.ne_of_lt (Heap.lt_size g3)) (Heap.get?_push_size _ rfl) rfl (by first | (simp; done) | (simp; omega) | (simp only [Array.size_append]; simp; omega)) ?_
  refine wpAny_bind (wpAny_isInstance (T := "StopIteration") (b := true) ⟨_, Heap.get?_update_self _ (Heap.get?_push_size _ rfl) rfl, rfl⟩ isSubtype_stop (wpAny_pure (fin _ fun b o hb e => ?_)))
  have e2 := (Heap.get?_update_other s.heap (Obj.mapFields (·.setIfInBounds 0 .none)) (Ne.symm hb)).trans e
  have e3 := Heap.get?_push_of_some { cls := .type "tuple", data := .seq ([] : List Value).toArray } e2
  rw [Heap.get?_update_other _ _ (Nat.ne_of_gt (Heap.lt_size e3))]
  exact Heap.get?_push_of_some _ e3
/-- a tuple into targets -/
theorem assignT_hot {env : PySem.Env} {elts : List Expr} {k : Nat} {pos : Pos} {q y : Addr} {its : Array Value} {R : Unit → Shared → Prop} (hy : HotAt A y s.heap) (hq : IsTup s.heap q its) (hn : (assignEach elts env).length = its.size) (hst : (assignEach elts env).findIdx? (·.1) = none)
    (fin : ∀ g, Heap.ExtBut s.heap.objs.size s.heap g → wpAny (model prog w) A (assignInOrder ((assignEach elts env).map (·.2)) its.toList) R E { s with heap := g }) : wpAny (model prog w) A (assign (.Tuple elts k pos) env (.ref q)) R E s := by
  obtain ⟨hA, oy, vy, gy, dy, cy⟩ := hy
  have lq : q ≠ s.heap.objs.size := by
    obtain ⟨o, e, _⟩ := hq
    exact Nat.ne_of_lt (Heap.lt_size e)
  have ly : y ≠ s.heap.objs.size := Nat.ne_of_lt (Heap.lt_size gy)
  show wpAny (model prog w) A (do standAt pos; unpack (.ref q) (assignEach elts env)) R E s
  refine wpAny_bind (wpAny_standAt ?_)
  unfold unpack
  rw [hn, hst]
  refine wpAny_bind (wpAny_holding ?_)
  unfold unpackItems notIterableAtAll
  refine wpAny_bind (wpAny_bind (wpAny_specialOf hq.typeIs slot_tuple_iter.lookup (wpAny_pure ?_)))
  simp only [Bool.false_eq_true, if_false]
  refine wpAny_bind (wpAny_holding (iter_tuple hq (wpAny_bind (wpAny_holding (draw_tuple lq its.size 0 _ _ ⟨_, Heap.get?_push_size _ rfl, rfl, rfl⟩ (hq.push _) (by omega) fun g hg sg => ?_)))))
  have e : List.take its.size (List.drop 0 its.toList) = its.toList := by
    rw [List.drop_zero]
    exact List.take_of_length_le (by simp)
  rw [e, if_neg (by simp)]
  have hq' : IsTup g q its := (hq.push _).extBut sg.extBut lq
  have gy' : g.get? y = some oy := sg.extBut y oy ly (Heap.get?_push_of_some _ gy)
  refine wpAny_bind (wpAny_holding (endT_hot (s := { s with heap := g }) ⟨hA, oy, vy, gy', dy, cy⟩ hg hq' (by simp) ly fun g2 eg => ?_))
  simp only [Option.isSome_none, Bool.false_eq_true, if_false]
  exact wpAny_pure (fin g2 fun b o hb z => eg b o hb (sg.extBut b o hb (Heap.get?_push_of_some _ z)))
end
end VI
end
section
set_option maxRecDepth 100000
set_option maxHeartbeats 2000000
namespace VI
open PySem PySem.Spec PyProof.Rows L2 L2H HotX
/-- an exception is handled, and it stands apart -/
def HotK (X : Cx) : Prop := ∀ (pins : List (Addr × Obj)) (σ : L2.St) (H : Hp) (s : Shared), Inv X pins σ H s → ∃ y, HotAt X.A y s.heap ∧ ∀ b, FpOk X pins H b → y ≠ b
theorem hotK_of {X : Cx} (h : HotC X) : HotK X := fun pins σ H s I => by
  obtain ⟨p, ⟨e1, vs, e2, e3⟩, hp⟩ := h
  have hp' := List.mem_append_left pins hp
  exact ⟨p.1, ⟨e1, p.2, vs, (I.pin p hp').1, e2, e3⟩, fun b f => f.2.2.2.2.2 p hp'⟩
/-- .. in a block -/
theorem hotK_blk {X : Cx} {pins : List (Addr × Obj)} {σ : L2.St} {H : Hp} {s : Shared} {scope : Scope} {cenv : PySem.Env} {fp : List Addr} (h : HotC X) (I : Inv X pins σ H s) (hf : ∀ b ∈ fp, FpOk X pins H b) : HotK (X.blk s H scope cenv fp) := fun pins' σ' H' s' J => by
  obtain ⟨p, ⟨e1, vs, e2, e3⟩, hp⟩ := h
  have hp' := List.mem_append_left pins hp
  obtain ⟨q1, q2, q3, q4, q5⟩ := I.pin p hp'
  have nfp : p.1 ∉ fp := fun z => (hf _ z).2.2.2.2.2 p hp' rfl
  have hs : ∀ b ∈ frs X.stack, p.1 ≠ b := fun b hb z => by
    rcases I.ok.stk with e | ⟨e, ef⟩
    · exact q4 (by rw [z]; show b ∈ frs X.outer; rw [← e]; exact hb)
    · rw [e] at hb
      obtain ⟨en, m, q⟩ := List.mem_filterMap.mp hb
      rcases List.mem_cons.mp m with m | m
      · rw [m, ef] at q
        exact q3 (z.trans (Option.some.inj q).symm)
      · exact q4 (by rw [z]; exact List.mem_filterMap.mpr ⟨en, m, q⟩)
  have k := J.base.keep p.1 p.2 q1 q2 (fun z => hs _ z rfl) nfp
  refine ⟨p.1, ⟨e1, p.2, vs, k, e2, e3⟩, fun b f z => ?_⟩
  rcases f.2.2.2.1 with r | r
  · exact nfp (by rw [z]; exact r)
  · have lt := Heap.lt_size q1
    rw [z] at lt
    exact absurd lt (Nat.not_lt.mpr r)
section
variable {X : Cx}
theorem pg_tupK {es : List Expr} {k : Nat} {t : TGs} {n : Nat} {pos : Pos} (hc : HotK X) (h : PGs X es t) (hn : (assignEach es X.env).length = n) (hst : (assignEach es X.env).findIdx? (·.1) = none) : PG X (.Tuple es k pos) (gTup X.K n t) :=
  ⟨fun pins s σ H v u Q I r hw => by
    obtain ⟨a, xs, rfl, hq, hl, hw⟩ := hw
    cases r
    obtain ⟨its, rv, ht, hz⟩ := I.tuple hq
    obtain ⟨y, hy, _⟩ := hc pins σ H s I
    refine assignT_hot hy ht (by simp [hn, ← hl, rv.length]) hst fun g hx => ?_
    have J : Inv X pins σ H { s with heap := g } := I.kept (t' := s.toks) fun b o e => hx b o (Nat.ne_of_lt (Heap.lt_size e)) e
    exact h.run pins _ σ H xs _ Q J (by simpa using rv) hw⟩
end
end VI
end
section
set_option maxRecDepth 100000
set_option maxHeartbeats 2000000
namespace VI
open PySem PySem.Spec PyProof.Rows L2 L2H HotX
/-- what a turn of an iterator does while an exception is handled -/
structure TurnK (P : Program) (w : World) (K : PySem.W.Frag) (tg : Expr) (J : It) (ids : List Addr) (j : Addr) (st : Nat → Heap → Prop) : Prop where
  obj : ∀ i h, st i h → ∀ b ∈ ids, ∃ o, h.get? b = some o ∧ ∀ v, o.data ≠ .cell v
  keep : ∀ i h g, st i h → (∀ b ∈ ids, ∀ o, h.get? b = some o → g.get? b = some o) → st i g
  item : ∀ X : Cx, X.prog = P → X.w = w → X.K = K → HotK X → ∀ (i : Nat) (pins : List (Addr × Obj)) (s : Shared) (σ : L2.St) (H : Hp), Inv X pins σ H s → (∀ b ∈ ids, FpOk X pins H b) → st i s.heap → J.go i H →
    wpAny (model P w) X.A (pyNext (.ref j)) (fun r s1 => ∃ u, r = some u ∧ wpAny (model P w) X.A (letOwnedTupleGo tg (.ref j) u) (fun _ s2 => ∃ x G, Inv X pins σ G s2 ∧ RelV x u ∧ J.yld i H x G ∧ st (i + 1) s2.heap ∧ ∀ b ∈ ids, G b = none) (fun _ _ => False) s1) (fun _ _ => False) s
  done : ∀ X : Cx, X.prog = P → X.w = w → X.K = K → HotK X → ∀ (i : Nat) (pins : List (Addr × Obj)) (s : Shared) (σ : L2.St) (H : Hp), Inv X pins σ H s → (∀ b ∈ ids, FpOk X pins H b) → st i s.heap → J.stop i H →
    wpAny (model P w) X.A (pyNext (.ref j)) (fun r s1 => r = none ∧ Inv X pins σ H s1) (fun _ _ => False) s
  self : ∀ (A : Around) (i : Nat) (s : Shared) (Q : Value → Shared → Prop) (E : Value → Shared → Prop), st i s.heap → Q (.ref j) s → wpAny (model P w) A (pyIter (.ref j)) Q E s
theorem turnK_list {P : Program} {w : World} {K : PySem.W.Frag} {tg : Expr} (a j : Addr) : TurnK P w K tg (Itl K a) [j] j fun i h => h.IsListIter j a i where
  obj := fun i h ⟨o, e, _, d⟩ b hb => by
    rw [List.mem_singleton.mp hb]
    exact ⟨o, e, fun v z => by rw [d] at z; cases z⟩
  keep := fun i h g st k => st.at fun o e => k j List.mem_cons_self o e
  item := fun X hP hw hK hc i pins s σ H I hf st hg => by
    subst hP; subst hw; subst hK
    obtain ⟨xs, x, hq, hx⟩ := hg
    obtain ⟨its, rv, p, _⟩ := I.list hq
    obtain ⟨u, hu, ru⟩ := rv.get hx
    obtain ⟨f0, f1, f2, f3, f4, f5⟩ := hf j List.mem_cons_self
    refine wpAny_pyNext_list_item st p.isList (x := u) (by simpa using hu) fun g st2 sb => ?_
    have J : Inv X pins σ H { s with heap := g } := I.turned (t' := s.toks) (fun b o hb e => (sb.2 b hb).trans e) f0 f1 f3 f4 f5
    obtain ⟨o, e, c, d⟩ := id st2
    refine ⟨u, rfl, go_of (s := { s with heap := g }) e c d (by decide) ⟨x, H, J, ru, ⟨rfl, fun ys hy => ?_⟩, st2, fun b hb => (hf b hb).1⟩⟩
    rw [I.list_inj hy hq]
    exact hx
  done := fun X hP hw hK hc i pins s σ H I hf st hg => by
    subst hP; subst hw; subst hK
    obtain ⟨xs, hq, hx⟩ := hg
    obtain ⟨its, rv, p, _⟩ := I.list hq
    have fj := hf j List.mem_cons_self
    obtain ⟨y, hy, ny⟩ := hc pins σ H s I
    have hl := rv.length
    refine endL_hot hy st p.isList (by simp; omega) (ny j fj) fun g eb => ⟨rfl, ?_⟩
    obtain ⟨f0, f1, f2, f3, f4, f5⟩ := fj
    exact I.turned (t' := s.toks) (fun b o hb e => eb b o hb e) f0 f1 f3 f4 f5
  self := fun _ _ _ _ _ st h => wpAny_pyIter_listiter st h
def PIEK (X : Cx) (pins : List (Addr × Obj)) (σ : L2.St) (tg : Expr) (R : It → Hp → Prop) (v : Value) (s : Shared) : Prop :=
  ∃ (j : Addr) (ids : List Addr) (st : Nat → Heap → Prop) (J : It) (G : Hp), v = .ref j ∧ Inv X pins σ G s ∧ TurnK X.prog X.w X.K tg J ids j st ∧ st 0 s.heap ∧ (∀ b ∈ ids, FpOk X pins G b) ∧ R J G
/-- an iterator's expression, told of such a place -/
structure PIK (X : Cx) (tg iter : Expr) (wi : TI) : Prop where
  run : ∀ (pins : List (Addr × Obj)) (s : Shared) (σ : L2.St) (H : Hp) (R : It → Hp → Prop), Inv X pins σ H s → wi σ H R → wpAny (model X.prog X.w) X.A (eval iter X.env) (fun v s1 => wpAny (model X.prog X.w) X.A (pyIter v) (PIEK X pins σ tg R) X.xe s1) X.xe s
theorem PIK.weak {X : Cx} {tg x : Expr} {t t' : TI} (h : PIK X tg x t) (i : ∀ σ H Q, t' σ H Q → t σ H Q) : PIK X tg x t' := ⟨fun pins s σ H Q I q => h.run pins s σ H Q I (i _ _ _ q)⟩
def iLst (K : PySem.W.Frag) (tl : TE) : TI := fun σ H R => tl σ H fun x H1 => ∃ a xs, x = .ref a ∧ SqL K H1 a xs ∧ R (Itl K a) H1
theorem pik_list {X : Cx} {tg l : Expr} {tl : TE} (hl : PE X l tl) : PIK X tg l (iLst X.K tl) := by
  refine ⟨fun pins s σ H R I h => thn (hl.run pins s σ H _ I h) fun v s1 ⟨x, H1, I1, r1, a, xs, e, hq, q⟩ => ?_⟩
  subst e
  cases r1
  obtain ⟨its, rv, p, hz⟩ := I1.list hq
  refine wpAny_pyIter_list p.isList ⟨s1.heap.objs.size, [s1.heap.objs.size], _, _, H1, rfl, I1.kept (t' := s1.toks) fun b o e => Heap.get?_push_of_some _ e, turnK_list a _, ⟨_, Heap.get?_push_size _ rfl, rfl, rfl⟩, fun b hb => ?_, q⟩
  rw [List.mem_singleton.mp hb]
  exact I1.fpOk (Nat.le_refl _) (I1.hok.fresh (Nat.le_refl _))
end VI
end
section
set_option maxRecDepth 100000
set_option maxHeartbeats 2000000
namespace VI
open PySem PySem.Spec PyProof.Rows L2 L2H HotX
section
variable {X : Cx}
/-- [elt for target in iter if ..] in an except suite -/
theorem pe_lcK {elt tg iter : Expr} {ifs : List Expr} {scope : Scope} {own : List (Str × Nat)} {pos : Pos} {wi : TI} {g : TG} {tt : TT} {te : TE} (hot : HotC X) (nd : X.N.Nodup) (hi : PIK X tg iter wi) (ok : BlkOk X.N X.env.scope scope own)
    (hg : ∀ (s : Shared) (H : Hp) (C : Addr) (cl : List (Str × Addr)) (fp : List Addr), HotK (X.blk s H scope (compEnvC scope cl C X.env) fp) → PG (X.blk s H scope (compEnvC scope cl C X.env) fp) tg g)
    (ht : ∀ (s : Shared) (H : Hp) (C : Addr) (cl : List (Str × Addr)) (fp : List Addr), HotK (X.blk s H scope (compEnvC scope cl C X.env) fp) → PTs (X.blk s H scope (compEnvC scope cl C X.env) fp) ifs tt)
    (he : ∀ (s : Shared) (H : Hp) (C : Addr) (cl : List (Str × Addr)) (fp : List Addr), HotK (X.blk s H scope (compEnvC scope cl C X.env) fp) → PE (X.blk s H scope (compEnvC scope cl C X.env) fp) elt te)
    (hs : ∀ x, foldedSetIterable iter X.env x = pure x) : PE X (.ListComp elt [⟨tg, iter, ifs, 0⟩] scope pos) (tLc wi g tt te (own.map (·.2))) := by
  refine ⟨fun pins s σ H Q I h => ?_⟩
  rw [eval_ListComp]
  have cells : ∀ y ∈ scope.names, y.2 = .free → ∃ c, X.env.cells.lookup y.1 = some c := fun y hy e => I.ok.has _ (ok.free y hy e)
  refine wpAny_comprehension_free (use := none) rfl hs (closure_ok cells) ok.kind (fun y hy e => (ok.uniq y hy).trans (congrArg some e)) (thn (hi.run pins s σ H _ I h) fun xv s1 hx => thn hx fun itv s2 got => ?_)
  obtain ⟨j, ids, st, J, G, rfl, I2, T, st2, f2, q⟩ := got
  refine wpAny_newObj_type (newEnv_comp ?_) (by show 0 ≤ sizeLine; decide)
  generalize hL : s2.heap.objs.size = L
  have freeL : G L = none := I2.hok.fresh (Nat.le_of_eq hL)
  obtain ⟨W, ⟨m0, w0⟩, turn⟩ := q L freeL
  generalize hs3 : ({ s2 with heap := s2.heap.push { cls := .type "list", data := .seq ([] : List Value).toArray } } : Shared) = s3
  have h3 : s3.heap = s2.heap.push { cls := .type "list", data := .seq ([] : List Value).toArray } := by rw [← hs3]
  have old3 : ∀ b o, s2.heap.get? b = some o → s3.heap.get? b = some o := fun b o e => by
    rw [h3]
    exact Heap.get?_push_of_some _ e
  have I3 : Inv X pins σ (upd G L (.lst [])) s3 := by
    rw [← hs3]
    refine I2.laid (t' := s2.toks) (fun b o e => Heap.get?_push_of_some _ e) (Nat.le_of_eq hL) ⟨Nat.zero_le _, [], 0, .nil, ?_⟩
    rw [← hL]
    exact Heap.get?_push_size _ rfl
  have below : ∀ b ∈ ids, b < s2.heap.objs.size := fun b hb => by
    obtain ⟨o, e, _⟩ := T.obj _ _ st2 b hb
    exact Heap.lt_size e
  have f3 : ∀ b ∈ ids, FpOk X pins (upd G L (.lst [])) b ∧ b < s3.heap.objs.size := fun b hb => by
    have lt := below b hb
    obtain ⟨r1, r2⟩ := f2 b hb
    refine ⟨⟨(upd_ne (by rw [← hL]; exact Nat.ne_of_lt lt)).trans r1, r2⟩, ?_⟩
    rw [h3, Heap.size_push]
    exact Nat.lt_succ_of_lt lt
  have st3 : st 0 s3.heap := T.keep _ _ _ st2 fun b _ o e => old3 b o e
  have I4 := block_start I3 ok nd f3
  have hotB : ∀ cenv : PySem.Env, HotK (X.blk s3 (upd G L (.lst [])) scope cenv ids) := fun cenv => hotK_blk hot I3 fun b hb => (f3 b hb).1
  generalize hcl : cellsFrom (s3.heap.objs.size + 1) scope.names (cloFrom X.env.cells scope.names []) = cl at I4 ⊢
  have pg := hg s3 (upd G L (.lst [])) s3.heap.objs.size cl ids (hotB _)
  have pt := ht s3 (upd G L (.lst [])) s3.heap.objs.size cl ids (hotB _)
  have pe := he s3 (upd G L (.lst [])) s3.heap.objs.size cl ids (hotB _)
  have hb0 := hotB (compEnvC scope cl s3.heap.objs.size X.env)
  show codeAny _ X.A (.compStart (.ListComp elt [⟨tg, iter, ifs, 0⟩] scope pos) 0 (.ref j) (.ref L) (compEnvC scope cl s3.heap.objs.size X.env)) (compPost (model X.prog X.w) X.A X.xe none _ (.ref L) s3.heap.objs.size) { s3 with heap := pushCells (s3.heap.push { cls := .type "dict", data := .dict #[] }) scope.names }
  generalize hce : compEnvC scope cl s3.heap.objs.size X.env = ce at I4 pg pt pe hb0 ⊢
  have locE : ce.locals = s3.heap.objs.size := by rw [← hce]; rfl
  have none3 : ∀ b ∈ ids, (upd G L (.lst [])) b = none := fun b hb => (f3 b hb).1.1
  generalize hG3 : upd G L (.lst []) = G3 at I3 I4 pg pt pe hb0 w0 none3 f3
  generalize hs4 : ({ s3 with heap := pushCells (s3.heap.push { cls := .type "dict", data := .dict #[] }) scope.names } : Shared) = s4 at I4 ⊢
  have st4 : st 0 s4.heap := T.keep _ _ _ st3 fun b _ o e => by
    rw [← hs4]
    exact pushCells_keeps _ _ _ _ (Heap.get?_push_of_some _ e)
  have stands : ∀ {τ : L2.St} {M : Hp} {z : Shared}, Inv (X.blk s3 G3 scope ce ids) [] τ M z → (∀ b ∈ ids, M b = none) → ∀ b ∈ ids, FpOk (X.blk s3 G3 scope ce ids) [] M b := fun {τ M z} I' hn b hb => by
    refine ⟨hn b hb, (I'.ok.exf b hb).1, I'.ok.exfs b hb, .inl hb, fun x c e => (I'.ok.exf b hb).2 x c e, fun p hp => ?_⟩
    have hp : p ∈ ([] : List (Addr × Obj)) := hp
    cases hp
  have loop : codeAny (model X.prog X.w) X.A (.compLoop (.ListComp elt [⟨tg, iter, ifs, 0⟩] scope pos) 0 (.ref j) (.ref L) ce) (compPost (model X.prog X.w) X.A X.xe none (EP X pins σ Q) (.ref L) s3.heap.objs.size) s4 := by
    refine compLoop_any (fun n z => ∃ i M, Inv (X.blk s3 G3 scope ce ids) [] (wipe σ (own.map (·.2))) M z ∧ st i z.heap ∧ (∀ b ∈ ids, M b = none) ∧ W i n M) (fun n s5 ⟨i, M5, I5, st5, n5, w5⟩ => ?_) m0 ⟨0, G3, I4, st4, none3, w0⟩
    rcases turn i n M5 w5 with ⟨stop, qq⟩ | ⟨go, Nx, hNx, step⟩
    · refine thnF (T.done (X.blk s3 G3 scope ce ids) rfl rfl rfl hb0 i [] s5 _ M5 I5 (stands I5 n5) st5 stop) fun r s6 ⟨hr, I6⟩ => ?_
      subst hr
      have I7 : Inv X pins σ M5 s6 := I3.call' (ch := ids) I6.os I6.base I6.hok I6.bare fun b hb => by
        obtain ⟨_, r1, r2, r3, r4, r5⟩ := (f3 b hb).1
        exact ⟨r3, r1, r4, r5⟩
      have nC : M5 s3.heap.objs.size = none := by
        have z : M5 ce.locals = none := I6.free
        rwa [locE] at z
      obtain ⟨m, hn, _⟩ := I6.loc
      have hn : s6.heap.Ns ce.locals m := hn
      rw [locE] at hn
      obtain ⟨g0, g1, g2, g3, g4, g5⟩ := I3.fpOk (Nat.le_refl _) nC
      exact ⟨m, hn, fun hh sb => ⟨.ref L, M5, I7.turned (t' := s6.toks) (fun b o hb e => (sb.2 b hb).trans e) g0 g1 g3 g4 g5, rfl, qq⟩⟩
    · refine thnF (T.item (X.blk s3 G3 scope ce ids) rfl rfl rfl hb0 i [] s5 _ M5 I5 (stands I5 n5) st5 go) fun r s6 ⟨u, hr, h6⟩ => ?_
      subst hr
      refine thnF h6 fun _ s7 ⟨x, M7, I7, r7, y7, st7, n7⟩ => ?_
      have I7p := I7.pinned (stands I7 n7) (T.obj _ _ st7)
      refine thnF (pg.run _ s7 _ M7 x u _ I7p r7 (step x M7 y7)) fun _ s8 ⟨σ8, M8, I8, hw8, q8⟩ => thnF (pt.run _ s8 σ8 M8 _ I8 q8) fun b s9 ⟨M9, I9, q9⟩ => ?_
      have close : ∀ {z : Shared} {M : Hp}, Inv (X.blk s3 G3 scope ce ids) ([] ++ pinsAt ids s7.heap) σ8 M z → Nx M → ∃ m, m < n ∧ ∃ i M', Inv (X.blk s3 G3 scope ce ids) [] (wipe σ (own.map (·.2))) M' z ∧ st i z.heap ∧ (∀ b ∈ ids, M' b = none) ∧ W i m M' := fun {z M} I' nx => by
        obtain ⟨m', hm, w'⟩ := hNx M nx
        have pinned : ∀ b ∈ ids, ∀ o, s7.heap.get? b = some o → z.heap.get? b = some o ∧ M b = none := fun b hb o e => by
          have q := I'.pin (b, o) (List.mem_append_right _ (List.mem_append_right _ (mem_pinsAt hb e)))
          exact ⟨q.1, q.2.1⟩
        have hl : (wipe σ (own.map (·.2))).length = σ8.length := by rw [← hw8, wipe_length]
        refine ⟨m', hm, i + 1, M, (I'.unpinned (pins := [])).weak hl (fun j v e => by rw [← hw8] at e; exact (wipe_some e).1), T.keep _ _ _ st7 fun b hb o e => (pinned b hb o e).1, fun b hb => ?_, w'⟩
        obtain ⟨o, e, _⟩ := T.obj _ _ st7 b hb
        exact (pinned b hb o e).2
      cases b with
      | false =>
        simp only [Bool.false_eq_true, if_false] at q9 ⊢
        exact close I9 q9
      | true =>
        simp only [if_true] at q9 ⊢
        refine thnF (pe.run _ s9 σ8 M9 _ I9 q9) fun z s10 ⟨yv, M10, I10, r10, acc, hD10, hz10, nx⟩ => ?_
        exact app_ok (X := X.blk s3 G3 scope ce ids) I10 hD10 hz10 r10 fun s11 I11 => close I11 nx
  exact codeAny_compStart_list loop (T.self X.A 0 _ _ _ st4 loop)
end
end VI
end
section
set_option maxRecDepth 100000
namespace VI
open PySem PySem.Spec PyProof.Rows L2 L2H HotX
theorem turnK_tup {P : Program} {w : World} {K : PySem.W.Frag} {tg : Expr} (a j : Addr) : TurnK P w K tg (Itt K a) [j] j fun i h => h.IsTupleIter j a i where
  obj := fun i h ⟨o, e, _, d⟩ b hb => by
    rw [List.mem_singleton.mp hb]
    exact ⟨o, e, fun v z => by rw [d] at z; cases z⟩
  keep := fun i h g st k => st.at fun o e => k j List.mem_cons_self o e
  item := fun X hP hw hK hc i pins s σ H I hf st hg => by
    subst hP; subst hw; subst hK
    obtain ⟨xs, x, hq, hx⟩ := hg
    obtain ⟨its, rv, p, _⟩ := I.tuple hq
    obtain ⟨u, hu, ru⟩ := rv.get hx
    obtain ⟨f0, f1, f2, f3, f4, f5⟩ := hf j List.mem_cons_self
    refine wpAny_pyNext_tuple_item st (show s.heap.IsTuple a its.toArray from p) (x := u) (by simpa using hu) fun g st2 sb => ?_
    have J : Inv X pins σ H { s with heap := g } := I.turned (t' := s.toks) (fun b o hb e => (sb.2 b hb).trans e) f0 f1 f3 f4 f5
    obtain ⟨o, e, c, d⟩ := id st2
    refine ⟨u, rfl, go_of (s := { s with heap := g }) e c d (by decide) ⟨x, H, J, ru, ⟨rfl, fun ys hy => ?_⟩, st2, fun b hb => (hf b hb).1⟩⟩
    rw [I.tuple_inj hy hq]
    exact hx
  done := fun X hP hw hK hc i pins s σ H I hf st hg => by
    subst hP; subst hw; subst hK
    obtain ⟨xs, hq, hx⟩ := hg
    obtain ⟨its, rv, p, _⟩ := I.tuple hq
    have fj := hf j List.mem_cons_self
    obtain ⟨y, hy, ny⟩ := hc pins σ H s I
    have hl := rv.length
    refine endT_hot hy st p (by simp; omega) (ny j fj) fun g eb => ⟨rfl, ?_⟩
    obtain ⟨f0, f1, f2, f3, f4, f5⟩ := fj
    exact I.turned (t' := s.toks) (fun b o hb e => eb b o hb e) f0 f1 f3 f4 f5
  self := fun _ _ _ _ _ st h => wpAny_pyIter_tupleiter st h
theorem pik_seq {X : Cx} {tg l : Expr} {tl : TE} (hl : PE X l tl) : PIK X tg l (iSeq X.K tl) := by
  refine ⟨fun pins s σ H R I h => thn (hl.run pins s σ H _ I h) fun v s1 ⟨x, H1, I1, r1, a, e, q⟩ => ?_⟩
  subst e
  cases r1
  have fresh : ∀ b ∈ [s1.heap.objs.size], FpOk X pins H1 b := fun b hb => by
    rw [List.mem_singleton.mp hb]
    exact I1.fpOk (Nat.le_refl _) (I1.hok.fresh (Nat.le_refl _))
  rcases q with ⟨⟨xs, hq⟩, q⟩ | ⟨⟨xs, hq⟩, q⟩
  · obtain ⟨its, rv, p, hz⟩ := I1.list hq
    exact wpAny_pyIter_list p.isList ⟨s1.heap.objs.size, [s1.heap.objs.size], _, _, H1, rfl, I1.kept (t' := s1.toks) fun b o e => Heap.get?_push_of_some _ e, turnK_list a _, ⟨_, Heap.get?_push_size _ rfl, rfl, rfl⟩, fresh, q⟩
  · obtain ⟨its, rv, p, hz⟩ := I1.tuple hq
    exact wpAny_pyIter_tuple (show s1.heap.IsTuple a its.toArray from p) ⟨s1.heap.objs.size, [s1.heap.objs.size], _, _, H1, rfl, I1.kept (t' := s1.toks) fun b o e => Heap.get?_push_of_some _ e, turnK_tup a _, ⟨_, Heap.get?_push_size _ rfl, rfl, rfl⟩, fresh, q⟩
section
variable {X : Cx} {S : Sg} {s : Bool} {a b c' e tg elt iter cond : Expr} {es : List Expr} {fa fb fc fe : Env → M D} {fs : Env → M (List D)} {fit : Env → M (List D)} {pos p p2 : Pos}
theorem sik_seq (hK : X.K = S.g.K) (ha : PE X a (tE S s fa)) : PIK X tg a (tI S s fun env => M.bind (fa env) walkD) :=
  PIK.weak (pik_seq ha) fun σ H R ⟨c, w, at_, Rl, q⟩ => tE_mono (one at_ Rl q) fun x H1 ⟨w1, dx, R1, k1, h1, q1⟩ => by
    obtain ⟨xs, e, q2⟩ := q1.lift
    cases dx with
    | tup ds =>
      cases e
      obtain ⟨a, vs, rfl, h2, h3⟩ := repS_tup (Fr.repS.w R1 h1)
      refine ⟨a, rfl, .inr ⟨⟨vs, by rw [hK]; exact h2.sq⟩, q2 H1 _ R1 Keep.refl (it_plain R1 walk_tup h3 (fun _ H' k => ?_) fun H' k => ?_)⟩⟩
      · rw [hK]; exact (k.tupAt (fun _ => .inl) h2).sq
      · rw [hK]; exact ((R1.agr k).tupAt (fun _ => .inl) h2).sq
    | lst ds =>
      cases e
      obtain ⟨a, vs, rfl, h2, h3⟩ := repS_lst (Fr.repS.w R1 h1)
      refine ⟨a, rfl, .inl ⟨⟨vs, SqL.of h2⟩, q2 H1 _ R1 Keep.refl (it_plain R1 walk_list h3 (fun hs H' k => ?_) fun H' k => ?_)⟩⟩
      · subst hs
        obtain ⟨a', vs', h4, h5, h6, _⟩ := h1
        cases h4
        rw [h2] at h5
        exact SqL.of (k _ _ h2 h6 noTbl_lst)
      · exact SqL.of (k.k _ _ h2 ((Fr.repS.w R1 h1).2 a _ rfl rfl) noTbl_lst)
    | _ => cases e
theorem se_compK {t : T} {scope : Scope} {own : List (Str × Nat)} (hc : HotC X) (hN : X.N.Nodup) (hK : X.K = S.g.K) (hi : PIK X tg iter (tI S false fit)) (ok : BlkOk X.N X.env.scope scope own) (ho : own.map (·.2) = t.slots) (hd : ∀ i ∈ t.slots, i ∉ S.own)
    (hg : ∀ (s : Shared) (H : Hp) (C : Addr) (cl : List (Str × Addr)) (fp : List Addr), HotK (X.blk s H scope (compEnvC scope cl C X.env) fp) → PG (X.blk s H scope (compEnvC scope cl C X.env) fp) tg (readT S.g.K t))
    (he : ∀ (s : Shared) (H : Hp) (C : Addr) (cl : List (Str × Addr)) (fp : List Addr), HotK (X.blk s H scope (compEnvC scope cl C X.env) fp) → PE (X.blk s H scope (compEnvC scope cl C X.env) fp) elt (tE S.in true fe))
    (hs : ∀ x, foldedSetIterable iter X.env x = pure x) : PE X (.ListComp elt [⟨tg, iter, [], 0⟩] scope pos) (tE S s (eComp fit t fe)) :=
  PE.weak (pe_lcK hc hN hi ok hg (fun _ _ _ _ _ _ => pts_nil) he hs) fun σ H Q ⟨c, w, at_, R, q⟩ => by
    rw [ho]
    exact tlc_comp (s := s) hd ⟨c, w, at_, R, q⟩
theorem se_compIfK {t : T} {scope : Scope} {own : List (Str × Nat)} (hc : HotC X) (hN : X.N.Nodup) (hK : X.K = S.g.K) (hi : PIK X tg iter (tI S false fit)) (ok : BlkOk X.N X.env.scope scope own) (ho : own.map (·.2) = t.slots) (hd : ∀ i ∈ t.slots, i ∉ S.own)
    (hg : ∀ (s : Shared) (H : Hp) (C : Addr) (cl : List (Str × Addr)) (fp : List Addr), HotK (X.blk s H scope (compEnvC scope cl C X.env) fp) → PG (X.blk s H scope (compEnvC scope cl C X.env) fp) tg (readT S.g.K t))
    (ht : ∀ (s : Shared) (H : Hp) (C : Addr) (cl : List (Str × Addr)) (fp : List Addr), HotK (X.blk s H scope (compEnvC scope cl C X.env) fp) → PT (X.blk s H scope (compEnvC scope cl C X.env) fp) cond (tT S.in (tst fc)))
    (he : ∀ (s : Shared) (H : Hp) (C : Addr) (cl : List (Str × Addr)) (fp : List Addr), HotK (X.blk s H scope (compEnvC scope cl C X.env) fp) → PE (X.blk s H scope (compEnvC scope cl C X.env) fp) elt (tE S.in true fe))
    (hs : ∀ x, foldedSetIterable iter X.env x = pure x) : PE X (.ListComp elt [⟨tg, iter, [cond], 0⟩] scope pos) (tE S s (eCompIf fit t fc fe)) :=
  PE.weak (pe_lcK hc hN hi ok hg (fun s H C cl fp q => pts_one (ht s H C cl fp q)) he hs) fun σ H Q ⟨c, w, at_, R, q⟩ => by
    rw [ho]
    exact tlc_compIf (s := s) hd ⟨c, w, at_, R, q⟩
end
end VI
end
section
set_option maxRecDepth 100000
set_option maxHeartbeats 1000000
namespace VI
open PySem PySem.Spec PyProof.Rows L2
/-! ### a, b = x, y: some of these new lists that stay one's own -/
abbrev Itm := D × V × Option Addr
def psOf : List Itm → List Addr
  | [] => []
  | (_, _, some p) :: xs => p :: psOf xs
  | (_, _, none) :: xs => psOf xs
def AccOk (g : Gb) (c : Fr) (H : Hp) : List Itm → Prop
  | [] => True
  | (d, v, none) :: xs => c.rep g H d v ∧ AccOk g c H xs
  | (d, v, some p) :: xs => (v = .ref p ∧ ∃ ds us, d = .lst ds ∧ H p = some (.lst us) ∧ c.reps g H ds us) ∧ AccOk g c H xs
theorem AccOk.mono {g : Gb} {c c' : Fr} {H : Hp} (hc : c'.cup = c.cup) (hb : ∀ a, c'.bad a → c.bad a) : ∀ {xs : List Itm}, AccOk g c H xs → AccOk g c' H xs
  | [], _ => trivial
  | (d, v, none) :: xs, h => ⟨Rep.mono (H := H) (H' := H) (fun _ _ h _ _ => h) (fun a z => .inl (hb a z)) (fun a z => by rw [hc]; exact z) h.1, AccOk.mono hc hb h.2⟩
  | (d, v, some p) :: xs, ⟨⟨h1, ds, us, h2, h3, h4⟩, h5⟩ => ⟨⟨h1, ds, us, h2, h3, Reps.mono (H := H) (H' := H) (fun _ _ h _ _ => h) (fun a z => .inl (hb a z)) (fun a z => by rw [hc]; exact z) h4⟩, AccOk.mono hc hb h5⟩
abbrev Fr.ins (c : Fr) (ps : List Addr) : Fr := { c with b0 := fun a => c.b0 a ∨ a ∈ ps }
def ownM : List Nat → List Itm → List (Nat × Addr) → List (Nat × Addr)
  | i :: is, (_, _, some p) :: xs, o => ownM is xs ((i, p) :: o)
  | _ :: is, (_, _, none) :: xs, o => ownM is xs o
  | _, _, o => o
def foldS (is : List Nat) (xs : List Itm) (σ : L2.St) : L2.St := (is.zip (xs.map (·.2.1))).foldl (fun σ p => σ.set p.1 (some p.2)) σ
theorem bind_all {g : Gb} {w : List D} {H : Hp} : ∀ (is : List Nat) (xs : List Itm) (c : Fr) {env' : Env}, Rel g (c.ins (psOf xs)) w H → AccOk g (c.ins (psOf xs)) H xs → (psOf xs).Nodup →
    (∀ p ∈ psOf xs, ¬ c.b0 p ∧ p ∉ c.Own.map (·.2) ∧ NoneT c.H0 p ∧ c.cup ≠ some p) → is.Nodup → (∀ i ∈ is, i ∉ c.Own.map (·.1)) → setParts is (xs.map (·.1)) c.env = some env' →
    Rel g { c with Own := ownM is xs c.Own, env := env', σ := foldS is xs c.σ } w H
  | [], [], c, env', R, A, _, _, _, _, e => by
    have e : some c.env = some env' := e
    cases e
    have z : c.ins (psOf []) = c := by
      show ({ c with b0 := fun a => c.b0 a ∨ a ∈ ([] : List Addr) } : Fr) = c
      congr 1
      funext a
      simp
    rw [z] at R
    exact R
  | [], _ :: _, c, env', R, A, _, _, _, _, e => by cases e
  | i :: is, [], c, env', R, A, _, _, _, _, e => by cases e
  | i :: is, (d, v, none) :: xs, c, env', R, A, nd, hp, ni, ho, e => by
    have R2 := R.setS A.1 (ho i List.mem_cons_self)
    obtain ⟨n1, n2⟩ := List.nodup_cons.mp ni
    have A2 : AccOk g ((c.to (c.env.set i (some d)) (c.σ.set i (some v))).ins (psOf xs)) H xs := AccOk.mono (c := c.ins (psOf ((d, v, none) :: xs))) (c' := (c.to (c.env.set i (some d)) (c.σ.set i (some v))).ins (psOf xs)) rfl (fun a z => z) A.2
    exact bind_all is xs (c.to (c.env.set i (some d)) (c.σ.set i (some v))) R2 A2 nd hp n2 (fun j hj => ho j (List.mem_cons_of_mem _ hj)) e
  | i :: is, (d, v, some p) :: xs, c, env', R, A, nd, hp, ni, ho, e => by
    obtain ⟨⟨h1, ds, us, h2, h3, h4⟩, A2⟩ := A
    subst h1
    subst h2
    obtain ⟨n1, n2⟩ := List.nodup_cons.mp ni
    obtain ⟨m1, m2⟩ := List.nodup_cons.mp nd
    obtain ⟨q1, q2, q3, q4⟩ := hp p List.mem_cons_self
    have R2 := adopt (b1 := fun a => c.b0 a ∨ a ∈ psOf xs) (i := i) (p := p) (c2 := c.ins (psOf ((D.lst ds, V.ref p, some p) :: xs))) R (fun a => by
      show (c.b0 a ∨ a ∈ p :: psOf xs) ↔ (c.b0 a ∨ a ∈ psOf xs) ∨ a = p
      rw [List.mem_cons]
      constructor
      · rintro (z | z | z)
        · exact .inl (.inl z)
        · exact .inr z
        · exact .inl (.inr z)
      · rintro ((z | z) | z)
        · exact .inl z
        · exact .inr (.inr z)
        · exact .inr (.inl z)) (fun z => z.elim q1 m1) h3 h4 (ho i List.mem_cons_self) q2 q3 q4
    have A3 : AccOk g ((Fr.mk c.T c.cup c.b0 c.H0 ((i, p) :: c.Own) (c.env.set i (some (.lst ds))) (c.σ.set i (some (.ref p)))).ins (psOf xs)) H xs := AccOk.mono (c := c.ins (psOf ((D.lst ds, V.ref p, some p) :: xs))) (c' := (Fr.mk c.T c.cup c.b0 c.H0 ((i, p) :: c.Own) (c.env.set i (some (.lst ds))) (c.σ.set i (some (.ref p)))).ins (psOf xs)) rfl (fun a z => by
      rcases z with (z | z) | z
      · exact .inl (.inl z)
      · exact .inl (.inr (List.mem_cons_of_mem _ z))
      · rcases List.mem_cons.mp z with z | z
        · exact .inl (.inr (by rw [z]; exact List.mem_cons_self))
        · exact .inr z) A2
    refine bind_all is xs { c with Own := (i, p) :: c.Own, env := c.env.set i (some (.lst ds)), σ := c.σ.set i (some (.ref p)) } R2 A3 m2 (fun r hr => ?_) n2 (fun j hj z => ?_) e
    · obtain ⟨a1, a2, a3, a4⟩ := hp r (List.mem_cons_of_mem _ hr)
      refine ⟨a1, fun z => ?_, a3, a4⟩
      rcases List.mem_cons.mp z with z | z
      · have z : r = p := z
        exact m1 (by rw [← z]; exact hr)
      · exact a2 z
    · rcases List.mem_cons.mp z with z | z
      · have z : j = i := z
        exact n1 (by rw [← z]; exact hj)
      · exact ho j (List.mem_cons_of_mem _ hj) z
def RdM (S : Sg) (m : Bool) (f : Env → M D) : TE := if m = true then tEF S f else tE S true f
def tMs (S : Sg) : List (Bool × (Env → M D)) → TA
  | [] => tNil
  | p :: r => tCons (RdM S p.1 p.2) (tMs S r)
def evalMs : List (Bool × (Env → M D)) → Env → M (List D)
  | [], _ => M.pure []
  | p :: r, env => M.bind (p.2 env) fun x => M.bind (evalMs r env) fun xs => M.pure (x :: xs)
def marksAre : List (Bool × (Env → M D)) → List Itm → Prop
  | [], [] => True
  | (m, _) :: l, (_, _, o) :: xs => m = o.isSome ∧ marksAre l xs
  | _, _ => False
theorem AccOk.step {S : Sg} {c : Fr} {w : List D} {H H' : Hp} {ps : List Addr} (R : Rel S.g c w H) (k : Keep c.cup H H') (hp : ∀ p ∈ ps, NoneT H p) {d : D} {v : V} (h : c.rep S.g H d v) : (c.ins ps).rep S.g H' d v :=
  Rep.mono (R.agr k) (fun a z => by
    rcases z with (z | z) | z
    · exact .inl (.inl z)
    · exact .inr (hp a z)
    · exact .inl (.inr z)) (fun _ => id) h
theorem AccOk.steps {S : Sg} {c : Fr} {w : List D} {H H' : Hp} {ps : List Addr} (R : Rel S.g c w H) (k : Keep c.cup H H') (hp : ∀ p ∈ ps, NoneT H p) {d : List D} {v : List V} (h : c.reps S.g H d v) : (c.ins ps).reps S.g H' d v :=
  Reps.mono (R.agr k) (fun a z => by
    rcases z with (z | z) | z
    · exact .inl (.inl z)
    · exact .inr (hp a z)
    · exact .inl (.inr z)) (fun _ => id) h
theorem ins_in {c : Fr} {p : Addr} {ps : List Addr} : (c.in p c.env c.σ).ins ps = c.ins (p :: ps) := by
  show ({ c with b0 := fun a => (c.b0 a ∨ a = p) ∨ a ∈ ps, env := c.env, σ := c.σ } : Fr) = { c with b0 := fun a => c.b0 a ∨ a ∈ p :: ps }
  congr 1
  funext a
  rw [List.mem_cons, or_assoc]
theorem par_core {S : Sg} {Vw : R F → Prop} {f : List D → M F} (hno : ¬ Vw .no) : ∀ (l : List (Bool × (Env → M D))) (c : Fr) (w : List D) (H : Hp) (Q : List V → Hp → Prop), S.at c c.σ → Rel S.g c w H → (∀ p ∈ l, p.1 = true → ∀ env w d w', p.2 env w = .ok d w' → isLstD d = true) →
    (∀ k w', Vw (.ex k w') → ∀ H', Rel S.g c w' H' → Keep c.cup H H' → S.EX (.ref (S.g.ca k)) none H') →
    (∀ (xs : List Itm) w' H', marksAre l xs → Rel S.g (c.ins (psOf xs)) w' H' → Keep c.cup H H' → AccOk S.g (c.ins (psOf xs)) H' xs → (∀ p ∈ psOf xs, NoneT H p) → (psOf xs).Nodup → Vw (f (xs.map (·.1)) w') → Q (xs.map (·.2.1)) H') →
    Vw (M.bind (evalMs l c.env) f w) → tMs S l c.σ H Q
  | [], c, w, H, Q, at_, R, hl, hex, hend, q => by
    have z : c.ins (psOf []) = c := by
      show ({ c with b0 := fun a => c.b0 a ∨ a ∈ ([] : List Addr) } : Fr) = c
      congr 1
      funext a
      simp
    exact hend [] w H trivial (by rw [z]; exact R) Keep.refl trivial (fun p hp => by cases hp) List.nodup_nil q
  | (m, fe) :: l, c, w, H, Q, at_, R, hl, hex, hend, q => by
    have e0 : M.bind (evalMs ((m, fe) :: l) c.env) f = M.bind (fe c.env) fun x => M.bind (evalMs l c.env) fun xs => f (x :: xs) := by
      show M.bind (M.bind (fe c.env) fun x => M.bind (evalMs l c.env) fun xs => M.pure (x :: xs)) f = _
      rw [M.bind_assoc]
      congr 1; funext x
      rw [M.bind_assoc]
      rfl
    rw [e0] at q
    cases m with
    | true =>
      refine ⟨c, w, at_, R, ?_⟩
      show WpF S c H _ (fe c.env w)
      cases e : fe c.env w with
      | no =>
        have q : Vw .no := by unfold M.bind at q; rw [e] at q; exact q
        exact (hno q).elim
      | ex k w1 =>
        have q : Vw (.ex k w1) := by unfold M.bind at q; rw [e] at q; exact q
        exact fun H1 R1 k1 => hex k w1 q H1 R1 k1
      | ok d w1 =>
        have q : Vw (M.bind (evalMs l c.env) (fun xs => f (d :: xs)) w1) := by unfold M.bind at q; rw [e] at q; exact q
        have ld := hl (true, fe) List.mem_cons_self rfl _ _ _ _ e
        cases d with
        | lst ds =>
          intro p H1 us hp R1 k1 hp1 hr1
          have npc : c.cup ≠ some p := fun z => by
            obtain ⟨xs, ex⟩ := R.lists p (R.badCup p z)
            exact hp _ ex noTbl_lst
          refine par_core hno (f := fun xs => f (.lst ds :: xs)) l (c.in p c.env c.σ) w1 H1 _ ⟨rfl, at_.2.1, at_.2.2.1, at_.2.2.2⟩ R1 (fun r hr => hl r (List.mem_cons_of_mem _ hr)) (fun k w' v H' R' k' => hex k w' v H' (R'.outof (.inr ⟨w, R⟩) (k1.trans k')) (k1.trans k')) (fun xs w' H' mk R' k' A fr nd v => ?_) q
          have R'' : Rel S.g (c.ins (p :: psOf xs)) w' H' := by rw [← ins_in]; exact R'
          have A'' : AccOk S.g (c.ins (p :: psOf xs)) H' xs := by rw [← ins_in]; exact A
          refine hend ((.lst ds, .ref p, some p) :: xs) w' H' ⟨rfl, mk⟩ R'' (k1.trans k') ⟨⟨rfl, ds, us, rfl, k'.k p _ hp1 npc noTbl_lst, ?_⟩, A''⟩ (fun r hr => ?_) (List.nodup_cons.mpr ⟨fun z => fr p z _ hp1 noTbl_lst, nd⟩) v
          · show (c.ins (p :: psOf xs)).reps S.g H' ds us
            rw [← ins_in]
            exact AccOk.steps R1 k' fr hr1
          · rcases List.mem_cons.mp hr with z | z
            · rw [z]; exact hp
            · exact k1.al r (fr r z)
        | _ => cases ld
    | false =>
      refine ⟨c, w, at_, R, ?_⟩
      show Wp S.g c S.EX (fe c.env) (c.repS true S.g) w H _
      unfold Wp
      cases e : fe c.env w with
      | no =>
        have q : Vw .no := by unfold M.bind at q; rw [e] at q; exact q
        exact (hno q).elim
      | ex k w1 =>
        have q : Vw (.ex k w1) := by unfold M.bind at q; rw [e] at q; exact q
        exact fun H1 R1 k1 => hex k w1 q H1 R1 k1
      | ok d w1 =>
        have q : Vw (M.bind (evalMs l c.env) (fun xs => f (d :: xs)) w1) := by unfold M.bind at q; rw [e] at q; exact q
        intro H1 v R1 k1 r1
        have r1 : c.rep S.g H1 d v := r1
        refine par_core hno (f := fun xs => f (d :: xs)) l c w1 H1 _ at_ R1 (fun r hr => hl r (List.mem_cons_of_mem _ hr)) (fun k w' v H' R' k' => hex k w' v H' R' (k1.trans k')) (fun xs w' H' mk R' k' A fr nd v' => ?_) q
        exact hend ((d, v, none) :: xs) w' H' ⟨rfl, mk⟩ R' (k1.trans k') ⟨AccOk.step R1 k' fr r1, A⟩ (fun r hr => k1.al r (fr r hr)) nd v'
theorem WpF.mono {S : Sg} {c : Fr} {H : Hp} {Q Q' : VK} {r : R D} (h : WpF S c H Q r) (i : ∀ v H', Q v H' → Q' v H') : WpF S c H Q' r := by
  cases r with
  | ok d w =>
    cases d with
    | lst ds => exact fun p H' vs a b e f g => i _ _ (h p H' vs a b e f g)
    | _ => exact False.elim h
  | ex k w => exact h
  | no => exact False.elim h
theorem tMs_mono {S : Sg} : ∀ {l : List (Bool × (Env → M D))} {σ : L2.St} {H : Hp} {Q Q' : List V → Hp → Prop}, tMs S l σ H Q → (∀ vs H', Q vs H' → Q' vs H') → tMs S l σ H Q'
  | [], _, _, _, _, h, i => i _ _ h
  | (true, f) :: l, σ, H, Q, Q', ⟨c, w, a, R, q⟩, i => ⟨c, w, a, R, q.mono fun v H' z => tMs_mono z fun vs H2 => i _ _⟩
  | (false, f) :: l, σ, H, Q, Q', ⟨c, w, a, R, q⟩, i => ⟨c, w, a, R, q.mono fun v H' z => tMs_mono z fun vs H2 => i _ _⟩
def ownS : List Nat → List Bool → List Nat → List Nat
  | i :: is, true :: ms, o => ownS is ms (i :: o)
  | _ :: is, false :: ms, o => ownS is ms o
  | _, _, o => o
theorem ownM_addr : ∀ {is : List Nat} {xs : List Itm} {o : List (Nat × Addr)} {a : Addr}, a ∈ (ownM is xs o).map (·.2) → a ∈ o.map (·.2) ∨ a ∈ psOf xs
  | [], _, _, _, h => .inl h
  | _ :: _, [], _, _, h => .inl h
  | i :: is, (_, _, some p) :: xs, o, a, h => by
    rcases ownM_addr (is := is) (xs := xs) (o := (i, p) :: o) h with z | z
    · rcases List.mem_cons.mp z with z | z
      · exact .inr (by rw [z]; exact List.mem_cons_self)
      · exact .inl z
    · exact .inr (List.mem_cons_of_mem _ z)
  | i :: is, (_, _, none) :: xs, o, a, h => ownM_addr (is := is) (xs := xs) (o := o) h
theorem ownM_slots : ∀ {is : List Nat} {l : List (Bool × (Env → M D))} {xs : List Itm} {o : List (Nat × Addr)} {q : List Nat}, marksAre l xs → (∀ j, j ∈ o.map (·.1) ↔ j ∈ q) → ∀ j, j ∈ (ownM is xs o).map (·.1) ↔ j ∈ ownS is (l.map (·.1)) q
  | [], _, _, _, _, _, h, j => h j
  | _ :: _, [], [], _, _, _, h, j => h j
  | _ :: _, [], _ :: _, _, _, m, _, _ => m.elim
  | _ :: _, _ :: _, [], _, _, m, _, _ => m.elim
  | i :: is, (m, _) :: l, (_, _, some p) :: xs, o, q, mk, h, j => by
    obtain ⟨m1, m2⟩ := mk
    cases m1
    exact ownM_slots (is := is) (o := (i, p) :: o) (q := i :: q) m2 (fun j => by rw [List.map_cons, List.mem_cons, List.mem_cons, h j]) j
  | i :: is, (m, _) :: l, (_, _, none) :: xs, o, q, mk, h, j => by
    obtain ⟨m1, m2⟩ := mk
    cases m1
    exact ownM_slots (is := is) (o := o) (q := q) m2 h j
section
variable {X : Cx} {S : Sg} {lo own : List Nat}
theorem parM_core {is : List Nat} {l : List (Bool × (Env → M D))} {c : Fr} {w : List D} {H : Hp} {Ds : Ends} (at_ : (S.w own).at c c.σ) (R : Rel S.g c w H) (hl : ∀ p ∈ l, p.1 = true → ∀ env w d w', p.2 env w = .ok d w' → isLstD d = true) (ni : is.Nodup) (ho : ∀ i ∈ is, i ∉ own)
    (q : WpS (S.w own) lo (ownS is (l.map (·.1)) own) c H Ds (M.bind (evalMs l c.env) (fun ds => M.bind (liftO (setParts is ds c.env)) fun env' => M.pure (.nx env')) w)) :
    tMs (S.w own) l c.σ H fun vs H1 => ∃ xs : List Itm, vs = xs.map (·.2.1) ∧ xs.length = is.length ∧ Ds.nx (foldS is xs c.σ) H1 := by
  refine par_core (S := S.w own) (Vw := WpS (S.w own) lo (ownS is (l.map (·.1)) own) c H Ds) (f := fun ds => M.bind (liftO (setParts is ds c.env)) fun env' => M.pure (.nx env')) (fun z => z) l c w H _ at_ R hl (fun k w' v H' R' k' => v H' R'.ground R'.cup0 R'.tabs) (fun xs w' H' mk R' k' A fr nd v => ?_) q
  cases e1 : setParts is (xs.map (·.1)) c.env with
  | none => rw [e1] at v; exact v.elim
  | some env' =>
    rw [e1] at v
    have nb : ∀ p ∈ psOf xs, ¬ c.bad p := fun p hp z => by
      obtain ⟨us, e⟩ := R.lists p z
      exact fr p hp _ e noTbl_lst
    have R2 := bind_all is xs c R' A nd (fun p hp => ⟨fun z => nb p hp (.inl z), fun z => nb p hp (.inr z), R.ground.al p (fr p hp), fun z => nb p hp (.inl (R.cupB p z))⟩) ni (fun i hi z => ho i hi ((at_.2.2.2 i).mp z)) e1
    have hlen : xs.length = is.length := by
      have : ∀ (is : List Nat) (ds : List D) (env : Env) env', setParts is ds env = some env' → ds.length = is.length := by
        intro is
        induction is with
        | nil =>
          intro ds env env' e
          cases ds with
          | nil => rfl
          | cons _ _ => cases e
        | cons i is ih =>
          intro ds env env' e
          cases ds with
          | nil => cases e
          | cons d ds =>
            have := ih ds (env.set i (some d)) env' e
            simp [this]
      have := this _ _ _ _ e1
      simpa using this
    refine ⟨xs, rfl, hlen, ?_⟩
    refine v { c with Own := ownM is xs c.Own, env := env', σ := foldS is xs c.σ } H' ⟨rfl, rfl, rfl, rfl, R.agr k', fun a z => ?_, k'.al⟩ rfl (fun j => ownM_slots mk (fun j => at_.2.2.2 j) j) R2
    rcases z with z | z
    · exact .inl (.inl z)
    · rcases ownM_addr z with z | z
      · exact .inl (.inr z)
      · exact .inr (fr a z)
theorem ss_parM2 {i j : Nat} {x y : Str} {a b : Expr} {px py pt pos : Pos} {kt k2 : Nat} {pt2 : Pos} {l : List (Bool × (Env → M D))} (hc : X.calm = true) (hN : X.N.Nodup) (hi : X.N[i]? = some x) (hj : X.N[j]? = some y) (hij : i ≠ j) (hx : X.env.scope.names.lookup x = some .local) (hy : X.env.scope.names.lookup y = some .local)
    (ha : PA X [a, b] (tMs (S.w own) l)) (hw : swappedStores [.Tuple [.Name x px, .Name y py] kt pt] (.Tuple [a, b] k2 pt2) X.env = pure (some [x, y])) (hs : swapsWithSole [.Tuple [.Name x px, .Name y py] kt pt] (.Tuple [a, b] k2 pt2) pos.line X.env = pure false)
    (hl : ∀ p ∈ l, p.1 = true → ∀ env w d w', p.2 env w = .ok d w' → isLstD d = true) (hd : i ∉ own ∧ j ∉ own) : PS X (.Assign [.Tuple [.Name x px, .Name y py] kt pt] (.Tuple [a, b] k2 pt2) pos) (tSt (S.w own) lo (ownS [i, j] (l.map (·.1)) own) fun env => M.bind (evalMs l env) fun ds => M.bind (liftO (setParts [i, j] ds env)) fun env' => M.pure (.nx env')) :=
  PS.weak (ps_par hc hN hi hj hij hx hy ha hw hs) fun Ds σ H ⟨c, w, at_, R, q⟩ => by
    have e := at_.1
    subst e
    have r := parM_core at_ R hl (is := [i, j]) (by simp [hij]) (fun k hk => by
      rcases List.mem_cons.mp hk with z | z
      · rw [z]; exact hd.1
      · rcases List.mem_cons.mp z with z | z
        · rw [z]; exact hd.2
        · cases z) q
    exact tMs_mono r fun vs H1 ⟨xs, h1, h2, h3⟩ => by
      match xs, h1, h2, h3 with
      | [p, q], h1, _, h3 => exact ⟨p.2.1, q.2.1, h1, h3⟩
theorem ss_parM3 {i j k : Nat} {x y z : Str} {a b e : Expr} {px py pz pt pos : Pos} {kt k2 : Nat} {pt2 : Pos} {l : List (Bool × (Env → M D))} (hc : X.calm = true) (hN : X.N.Nodup) (hi : X.N[i]? = some x) (hj : X.N[j]? = some y) (hk : X.N[k]? = some z) (hij : i ≠ j) (hik : i ≠ k) (hjk : j ≠ k)
    (hx : X.env.scope.names.lookup x = some .local) (hy : X.env.scope.names.lookup y = some .local) (hz : X.env.scope.names.lookup z = some .local)
    (ha : PA X [a, b, e] (tMs (S.w own) l)) (hw : swappedStores [.Tuple [.Name x px, .Name y py, .Name z pz] kt pt] (.Tuple [a, b, e] k2 pt2) X.env = pure (some [x, y, z])) (hs : swapsWithSole [.Tuple [.Name x px, .Name y py, .Name z pz] kt pt] (.Tuple [a, b, e] k2 pt2) pos.line X.env = pure false)
    (hl : ∀ p ∈ l, p.1 = true → ∀ env w d w', p.2 env w = .ok d w' → isLstD d = true) (hd : i ∉ own ∧ j ∉ own ∧ k ∉ own) : PS X (.Assign [.Tuple [.Name x px, .Name y py, .Name z pz] kt pt] (.Tuple [a, b, e] k2 pt2) pos) (tSt (S.w own) lo (ownS [i, j, k] (l.map (·.1)) own) fun env => M.bind (evalMs l env) fun ds => M.bind (liftO (setParts [i, j, k] ds env)) fun env' => M.pure (.nx env')) :=
  PS.weak (ps_par3 hc hN hi hj hk hij hik hjk hx hy hz ha hw hs) fun Ds σ H ⟨c, w, at_, R, q⟩ => by
    have e := at_.1
    subst e
    have r := parM_core at_ R hl (is := [i, j, k]) (by simp [hij, hik, hjk]) (fun k hk => by
      simp only [List.mem_cons, List.not_mem_nil, or_false] at hk
      rcases hk with z | z | z
      · rw [z]; exact hd.1
      · rw [z]; exact hd.2.1
      · rw [z]; exact hd.2.2) q
    exact tMs_mono r fun vs H1 ⟨xs, h1, h2, h3⟩ => by
      match xs, h1, h2, h3 with
      | [p, q, r], h1, _, h3 => exact ⟨p.2.1, q.2.1, r.2.1, h1, h3⟩
end
end VI
end
section
set_option maxRecDepth 100000
set_option maxHeartbeats 1000000
namespace VI
open PySem PySem.Spec PyProof.Rows L2
/-! ### xs[::-1], a list or a tuple -/
section
variable {prog : Program} {w : World} {A : Around} {E : Value → Shared → Prop} {s : Shared}
theorem back_adj (n : Nat) : Builtin.Slice.sliceAdjust none none (-1) (n : Int) = ((n : Int) - 1, -1) := by
  unfold Builtin.Slice.sliceAdjust
  simp
theorem back_many (n : Nat) : Builtin.Slice.slicePlaces ((n : Int) - 1) (-1) (-1) = n := by
  unfold Builtin.Slice.slicePlaces
  have h1 : ¬ ((-1 : Int) > 0) := by decide
  simp only [h1, if_false]
  by_cases h : n = 0
  · subst h; rfl
  · rw [show (- -1 : Int) = 1 by decide, Int.ediv_one]
    split <;> omega
theorem back_app {sl : Addr} {vl vu vs : Value} {n : Nat} {Q : Int × Int × Nat → Shared → Prop} (hs : s.heap.IsSliceOf sl vl vu vs) (pl : IsPart vl none) (pu : IsPart vu none) (ps : IsPart vs (some (-1))) (h : Q ((n : Int) - 1, -1, n) s) : wpAny (model prog w) A (Builtin.Slice.sliceApplied (.ref sl) (pure (n : Int))) Q E s := by
  obtain ⟨os, q1, q2, q3⟩ := id hs
  unfold Builtin.Slice.sliceApplied; unfold Builtin.Slice.sliceFields
  refine wpAny_bind (wpAny_bind (wpAny_field q1 q3 (x := vl) rfl (wpAny_bind (wpAny_field q1 q3 (x := vu) rfl (wpAny_bind (wpAny_field q1 q3 (x := vs) rfl (wpAny_pure ?_)))))))
  refine wpAny_bind (HT.slicePart_ ps ?_)
  show wpAny _ _ (if ((-1 : Int) == 0) = true then _ else _) _ _ s
  rw [if_neg (show ¬ ((-1 : Int) == 0) = true by decide)]
  refine wpAny_bind (HT.slicePart_ pl (wpAny_bind (HT.slicePart_ pu (wpAny_bind (wpAny_pure ?_)))))
  show wpAny _ _ (match Builtin.Slice.sliceAdjust none none (-1) (n : Int) with | (lo, hi) => pure (lo, (-1 : Int), Builtin.Slice.slicePlaces lo hi (-1))) _ _ s
  rw [back_adj n]
  show wpAny _ _ (pure ((n : Int) - 1, (-1 : Int), Builtin.Slice.slicePlaces ((n : Int) - 1) (-1) (-1))) _ _ s
  rw [back_many]
  exact wpAny_pure h
theorem fm_same {α β : Type} {f g : α → Option β} : ∀ {l : List α}, (∀ x ∈ l, f x = g x) → l.filterMap f = l.filterMap g
  | [], _ => rfl
  | x :: l, h => by
    rw [List.filterMap_cons, List.filterMap_cons, h x List.mem_cons_self, fm_same fun y hy => h y (List.mem_cons_of_mem _ hy)]
theorem back_pick (xs : Array Value) : ((List.range xs.size).filterMap fun (m : Nat) => xs[(((xs.size : Int) - 1) + (m : Int) * (-1)).toNat]?).toArray = xs.toList.reverse.toArray := by
  have e : (List.range xs.size).filterMap (fun (m : Nat) => xs[(((xs.size : Int) - 1) + (m : Int) * (-1)).toNat]?) = ((List.range xs.size).map fun k => xs.size - 1 - k).filterMap (xs[·]?) := by
    rw [List.filterMap_map]
    refine fm_same fun m hm => ?_
    have := List.mem_range.mp hm
    show xs[_]? = xs[xs.size - 1 - m]?
    congr 1
    omega
  rw [e, PySem.W.krv_range, List.filterMap_reverse, PySem.W.krv_all]
theorem item_back {t sl : Addr} {items : Array Value} {vl vu vs : Value} {Q : Value → Shared → Prop} (ht : IsTup s.heap t items) (hs : s.heap.IsSliceOf sl vl vu vs) (pl : IsPart vl none) (pu : IsPart vu none) (ps : IsPart vs (some (-1)))
    (h : Q (.ref s.heap.objs.size) { s with heap := s.heap.push { cls := .type "tuple", data := .seq items.toList.reverse.toArray } }) (hsz : items.size ≤ sizeLine) : wpAny (model prog w) A (getItem (.ref t) (.ref sl)) Q E s := by
  have fit : sizeOk (.seq items.toList.reverse.toArray) := by
    show items.toList.reverse.toArray.size ≤ sizeLine
    simpa using hsz
  obtain ⟨os, q1, q2, q3⟩ := id hs
  have hTs : s.TypeIs (.ref sl) "slice" := ⟨os, q1, q2⟩
  unfold getItem
  try with_reducible refine wpAny_holding ?_
  first | refine wpAny_bind (wpAny_pure ?_) | skip
  refine wpAny_bind (wpAny_sequenceKey ht.typeIs (by decide) (wpAny_bind (wpAny_callSpecial?_slot (name := Str.ofString "__getitem__") ht.typeIs PyProof.Rows.slot_tuple_getitem (wpAny_call_entry PyProof.Rows.slot_tuple_getitem ht.typeIs entry_tuple_getitem ?_ (args_tuple_getitem _ _)))))
  show wpAny _ _ (Builtin.Tuple.tupleItemsOf (.ref t) >>= _) _ _ s
  refine wpAny_bind (tupleItemsOf_ ht (wpAny_bind (wpAny_typeOf hTs ?_)))
  rw [if_pos (by decide)]
  refine wpAny_bind (back_app hs pl pu ps ?_)
  show wpAny _ _ (if ((((items.size : Nat) : Int) - 1) == 0 && (-1 : Int) == 1 && items.size == items.size) = true then _ else _) _ _ s
  rw [if_neg (by simp), back_pick]
  first
    | exact wpAny_bind (m := Builtin.Tuple.tupleExact _) (wpAny_newObj_type (wpAny_pure ⟨_, rfl, wpAny_pure h⟩) fit)
    | exact wpAny_bind (m := Builtin.Tuple.tupleExact _) (wpAny_newObj_type (wpAny_bind (wpAny_pure (wpAny_pure ⟨_, rfl, wpAny_pure h⟩))) fit)
    | exact wpAny_bind (wpAny_bind (m := Builtin.Tuple.tupleExact _) (wpAny_newObj_type (wpAny_pure (wpAny_pure ⟨_, rfl, wpAny_pure h⟩)) fit))
    | exact wpAny_bind (wpAny_bind (m := Builtin.Tuple.tupleExact _) (wpAny_newObj_type (wpAny_pure ⟨_, rfl, wpAny_pure h⟩) fit))
end
section
variable {X : Cx}
def tBack (K : PySem.W.Frag) (te : TE) : TE := fun σ H Q => te σ H fun x H1 => ∃ a xs, x = .ref a ∧ ((SqL K H1 a xs ∧ ∀ p, H1 p = none → Q (.ref p) (upd H1 p (.lst xs.reverse))) ∨ (SqT K H1 a xs ∧ ∀ p, H1 p = none → Q (.ref p) (upd H1 p (.tup xs.reverse))))
theorem pe_back {e : Expr} {te : TE} {k : Nat} {p1 p2 p3 pos : Pos} (he : PE X e te) : PE X (.Subscript e (.Slice none none (some (.UnaryOp .USub (.Constant (.int 1) k p1) p2)) p3) pos) (tBack X.K te) := by
  refine ⟨fun pins s σ H Q I h => Subscript_ (thn (he.run pins s σ H _ I h) fun v s1 ⟨x, H1, I1, r1, a, xs, ex, q⟩ => ?_)⟩
  subst ex
  cases r1
  have step : PO X (some (.UnaryOp .USub (.Constant (.int 1) k p1) p2)) (tPart (tUn (rU fun j => .int (-j)) (tC (.int 1)))) := po_some (pe_un un_neg pe_int)
  refine wpAny_Slice (thn (po_none.run pins s1 σ H1 (fun o H2 => o = none ∧ H2 = H1) I1 ⟨rfl, rfl⟩) fun vl s2 ⟨l, H2, I2, pl, el, e2⟩ => ?_)
  subst el; subst e2
  refine thn (po_none.run pins s2 σ H2 (fun o H3 => o = none ∧ H3 = H2) I2 ⟨rfl, rfl⟩) fun vu s3 ⟨u, H3, I3, pu, eu, e3⟩ => ?_
  subst eu; subst e3
  refine thn (step.run pins s3 σ H3 (fun o H4 => o = some (-1) ∧ H4 = H3) I3 ⟨1, rfl, -1, rfl, rfl, rfl⟩) fun vs s4 ⟨o, H4, I4, ps, eo, e4⟩ => ?_
  subst eo; subst e4
  have I5 : Inv X pins σ H4 { s4 with heap := s4.heap.push { cls := .type "slice", data := .fields #[vl, vu, vs] } } := I4.kept (t' := s4.toks) (fun b ob z => Heap.get?_push_of_some _ z)
  rcases q with ⟨hx, q⟩ | ⟨hx, q⟩
  · obtain ⟨its, r, ht, hz⟩ := I5.list hx
    have hlen := r.length
    refine tail_any (ops := [.ref a, .ref s4.heap.objs.size]) ht.isList.typeIs (PySem.slot_list_getitem.lookup) (wpAny_getItem_list_slice ht.isList (Heap.IsSliceOf.new _ vl vu vs) pl pu ps (by decide) ?_ (by rw [List.size_toArray]; omega)) (by with_unfolding_all rfl)
    rw [PySem.W.krv_pick]
    exact ⟨.ref _, _, I5.laid (t' := s4.toks) (o := .lst xs.reverse) (fun b ob z => Heap.get?_push_of_some _ z) (Nat.le_refl _) ⟨by rw [List.length_reverse]; exact hz, _, 0, r.reverse, Heap.get?_push_size _ rfl⟩, rfl, q _ (I5.hok.fresh (Nat.le_refl _))⟩
  · obtain ⟨its, r, ht, hz⟩ := I5.tuple hx
    have hlen := r.length
    refine tail_any (ops := [.ref a, .ref s4.heap.objs.size]) ht.typeIs PyProof.Rows.slot_tuple_getitem.lookup (item_back ht (Heap.IsSliceOf.new _ vl vu vs) pl pu ps ?_ (by rw [List.size_toArray]; omega)) (by with_unfolding_all rfl)
    exact ⟨.ref _, _, I5.laid (t' := s4.toks) (o := .tup xs.reverse) (fun b ob z => Heap.get?_push_of_some _ z) (Nat.le_refl _) ⟨by rw [List.length_reverse]; exact hz, _, r.reverse, IsTup.new _ _⟩, rfl, q _ (I5.hok.fresh (Nat.le_refl _))⟩
theorem se_rev {S : Sg} {s : Bool} {e : Expr} {fe : Env → M D} {k : Nat} {p1 p2 p3 pos : Pos} (hK : X.K = S.g.K) (he : PE X e (tE S false fe)) : PE X (.Subscript e (.Slice none none (some (.UnaryOp .USub (.Constant (.int 1) k p1) p2)) p3) pos) (tE S s fun env => M.bind (fe env) fun x => liftO (revD x)) :=
  PE.weak (pe_back he) fun σ H Q ⟨c, w, at_, R, q⟩ => ⟨c, w, at_, R, q.bind.mono fun x H1 ⟨d, w1, R1, k1, r1, q1, _⟩ => by
    cases e1 : revD d with
    | none => rw [e1] at q1; exact q1.elim
    | some dz =>
      rw [e1] at q1
      have q1 : Wp S.g c S.EX (M.pure dz) (c.repS s S.g) w1 H1 Q := q1
      unfold revD at e1
      split at e1
      · cases e1
        obtain ⟨a, vs, rfl, h2, h3⟩ := repS_tup r1
        exact ⟨a, vs, rfl, .inr ⟨by rw [hK]; exact h2.sq, fun p hp => fin_tup R1 q1 h3.reverse hp⟩⟩
      · cases e1
        obtain ⟨a, vs, rfl, h2, h3⟩ := repS_lst r1
        exact ⟨a, vs, rfl, .inl ⟨SqL.of h2, fun p hp => fin_lst R1 q1 h3.reverse hp⟩⟩
      · cases e1⟩
end
end VI
end
section
set_option maxRecDepth 100000
namespace VI
open PySem PySem.Spec PyProof.Rows L2
/-! ### xs.index(y), sorted(set(t)) -/
theorem findEq_some {d : PyData} : ∀ {ds : List PyData} {j : Nat}, findEq d ds = some j → ∃ z, ds[j]? = some z ∧ PyData.eqv z d = true ∧ ∀ (m : Nat) (z' : PyData), m < j → ds[m]? = some z' → PyData.eqv z' d = false
  | [], _, h => by cases h
  | z :: zs, j, h => by
    unfold findEq at h
    split at h
    · rename_i e
      cases h
      exact ⟨z, rfl, e, fun m z' hm _ => absurd hm (Nat.not_lt_zero _)⟩
    · rename_i e
      obtain ⟨i, h1, rfl⟩ := Option.map_eq_some_iff.mp h
      obtain ⟨y, h2, h3, h4⟩ := findEq_some h1
      refine ⟨y, h2, h3, fun m z' hm hz => ?_⟩
      cases m with
      | zero =>
        have hz : z = z' := by simpa using hz
        subst hz
        exact Bool.eq_false_iff.mpr e
      | succ m => exact h4 m z' (by omega) (by simpa using hz)
theorem insU_mem (a : Int) : ∀ (l : List Int) (k : Int), k ∈ insU a l ↔ k = a ∨ k ∈ l
  | [], k => by simp [insU]
  | b :: l, k => by
    unfold insU
    split
    · simp
    · split
      · rename_i e
        subst e
        simp
      · rw [List.mem_cons, insU_mem a l k, List.mem_cons]
        constructor
        · rintro (h | h | h)
          · exact .inr (.inl h)
          · exact .inl h
          · exact .inr (.inr h)
        · rintro (h | h | h)
          · exact .inr (.inl h)
          · exact .inl h
          · exact .inr (.inr h)
theorem insU_up (a : Int) : ∀ l : List Int, l.Pairwise (· < ·) → (insU a l).Pairwise (· < ·)
  | [], _ => by simp [insU]
  | b :: l, h => by
    unfold insU
    obtain ⟨h1, h2⟩ := List.pairwise_cons.mp h
    split
    · rename_i hab
      refine List.pairwise_cons.mpr ⟨fun y hy => ?_, h⟩
      rcases List.mem_cons.mp hy with e | e
      · subst e; exact hab
      · have := h1 y e; omega
    · split
      · exact h
      · rename_i h3 h4
        refine List.pairwise_cons.mpr ⟨fun y hy => ?_, insU_up a l h2⟩
        rcases (insU_mem a l y).mp hy with e | e
        · subst e; omega
        · exact h1 y e
theorem ssetI_up : ∀ l : List Int, (ssetI l).Pairwise (· < ·)
  | [] => List.Pairwise.nil
  | a :: l => insU_up a _ (ssetI_up l)
theorem ssetI_mem : ∀ (l : List Int) (k : Int), k ∈ ssetI l ↔ k ∈ l
  | [], k => Iff.rfl
  | a :: l, k => by
    show k ∈ insU a (ssetI l) ↔ _
    rw [insU_mem, ssetI_mem l k, List.mem_cons]
theorem up_one : ∀ {l m : List Int}, l.Pairwise (· < ·) → m.Pairwise (· < ·) → (∀ k, k ∈ l ↔ k ∈ m) → l = m
  | [], [], _, _, _ => rfl
  | [], b :: m, _, _, h => absurd ((h b).mpr List.mem_cons_self) List.not_mem_nil
  | a :: l, [], _, _, h => absurd ((h a).mp List.mem_cons_self) List.not_mem_nil
  | a :: l, b :: m, h1, h2, h => by
    obtain ⟨h3, h4⟩ := List.pairwise_cons.mp h1
    obtain ⟨h5, h6⟩ := List.pairwise_cons.mp h2
    have e : a = b := by
      rcases List.mem_cons.mp ((h a).mp List.mem_cons_self) with q | q
      · exact q
      · rcases List.mem_cons.mp ((h b).mpr List.mem_cons_self) with q2 | q2
        · exact q2.symm
        · have := h5 a q; have := h3 b q2; omega
    subst e
    rw [up_one h4 h6 fun k => ?_]
    constructor
    · intro hk
      rcases List.mem_cons.mp ((h k).mp (List.mem_cons_of_mem _ hk)) with q | q
      · have := h3 k hk; omega
      · exact q
    · intro hk
      rcases List.mem_cons.mp ((h k).mpr (List.mem_cons_of_mem _ hk)) with q | q
      · have := h5 k hk; omega
      · exact q
def rSetT (K : PySem.W.Frag) (w : World) : List V → Hp → VK → Prop := fun xs H Q => ∃ (p : Addr) (ns : List Int), xs = [.ref p] ∧ SqT K H p (ns.map V.int) ∧ ns.length ≤ 63 ∧ ∀ a c, H a = none → c ≤ ns.length → Q (.ref a) (upd H a (SetO w a (fun j => decide (j ∈ ns)) c))
section
variable {X : Cx} {S : Sg} {s : Bool} {a b : Expr} {fa fb : Env → M D} {pos apos cpos p p2 pos2 : Pos}
theorem cr_setT (hc : X.calm = true) : CallR X (.type "set") (rSetT X.K X.w) := by
  intro pins sh σ H xs us Q I r h
  obtain ⟨p0, ns, rfl, hq, hl, q⟩ := h
  rw [Vals.ref1 r]
  obtain ⟨its, rv, pt, hz⟩ := I.tuple hq
  have hi : IntsAre its.toArray.toList ns := ints_of_vals rv
  have hn : H sh.heap.objs.size = none := I.hok.fresh (Nat.le_refl _)
  refine call_set_tupI ns (I.ok.hd hc) (show sh.heap.IsTuple p0 its.toArray from pt) hi (by unfold scanBound; omega) fun h' tk c R hcn k => ?_
  exact ⟨.ref sh.heap.objs.size, upd H sh.heap.objs.size (SetO X.w sh.heap.objs.size (fun j => decide (j ∈ ns)) c), I.laid (t' := tk) k (Nat.le_refl _) (setO_new R), rfl, q _ c hn hcn⟩
theorem se_sset (hK : X.K = S.g.K) (hc : X.calm = true) (hg : Gl X "sorted") (hm : X.mg "sorted" = none) (hg2 : Gl X "set") (hm2 : X.mg "set" = none) (ha : PE X a (tE S false fa))
    (hst : starEach [a] X.env = (false, eval a X.env) :: starEach [] X.env) (hst2 : starEach [.Call (.Name "set" p2) [a] [] pos2] X.env = (false, eval (.Call (.Name "set" p2) [a] [] pos2) X.env) :: starEach [] X.env) :
    PE X (.Call (.Name "sorted" p) [.Call (.Name "set" p2) [a] [] pos2] [] pos) (tE S s fun env => M.bind (fa env) fun x => liftO (ssetD x)) :=
  PE.weak (pe_callB (cr_sortedSet hc) hg hm (by rfl) (pa_cons (pe_callTy (cr_setT hc) hg2 hm2 (by rfl) (pa_cons ha pa_nil hst) (by decide) (by rfl) hst rfl) pa_nil hst2) (by decide) (by rfl) hst2 rfl) fun σ H Q ⟨c, w, at_, R, q⟩ => by
    refine tE_mono (one at_ R q) fun x H1 ⟨w1, dx, R1, k1, h1, q1⟩ => ?_
    obtain ⟨dz, e, q2⟩ := q1.lift
    cases dx with
    | tup xs =>
      have e : ((intsD xs).bind fun is => if is.length ≤ 63 then some (D.lst ((ssetI is).map .int)) else none) = some dz := e
      obtain ⟨ns, e1, e2⟩ := Option.bind_eq_some_iff.mp e
      split at e2
      · rename_i hz
        cases e2
        obtain ⟨a0, vs, rfl, h2, h3⟩ := repS_tup h1
        have h4 := reps_ints h3 e1
        subst h4
        refine ⟨a0, ns, rfl, by rw [hK]; exact h2.sq, hz, fun q0 n hq hn => ?_⟩
        refine ⟨q0, fun j => decide (j ∈ ns), n, rfl, upd_same, by omega, fun ms p3 hup hmem hlen hp3 => ?_⟩
        have em : ms = ssetI ns := up_one hup (ssetI_up ns) fun k => by
          rw [hmem k, decide_eq_true_eq, ssetI_mem]
        subst em
        have R2 := R1.add (o := SetO X.w q0 (fun j => decide (j ∈ ns)) n) hq
        have R3 := R2.add (o := .lst ((ssetI ns).map V.int)) hp3
        exact q2 _ _ R3 ((Keep.new hq).trans (Keep.new hp3)) (Fr.rep.s (d := .lst ((ssetI ns).map .int)) R3 (show Rep _ _ _ _ (.lst _) _ from ⟨p3, _, rfl, upd_same, R2.fresh hp3, rep_ints _⟩) s)
      · cases e2
    | _ => cases e
theorem se_index (hK : X.K = S.g.K) (hu : X.A.units + 65 < cLine) (ha : PE X a (tE S false fa)) (hb : PE X b (tE S false fb)) (hst : starEach [b] X.env = (false, eval b X.env) :: starEach [] X.env) (hl : (apos.endLine == cpos.line) = true)
    (hbase : attributeBase a "index" X.env (eval a X.env) = eval a X.env) :
    PE X (.Call (.Attribute a "index" apos) [b] [] cpos) (tE S s fun env => M.bind (fa env) fun x => match x with
      | .lst xs => M.bind (fb env) fun y => liftO (indexD xs y)
      | _ => M.no) :=
  PE.weak (pe_bm PySem.F.plainAttrs_list PySem.F.slot_list_index PySem.F.type_list_index (mt_indexD hu) ha (pa_cons hb pa_nil hst) hbase (by rw [hst]; rfl) hl hst rfl) fun σ H Q ⟨c, w, at_, R, q⟩ => by
    refine tE_mono (one at_ R q) fun x H1 ⟨w1, dx, R1, k1, h1, q1⟩ => ?_
    cases dx with
    | lst xs =>
      obtain ⟨a0, vs, rfl, h2, h3⟩ := repS_lst h1
      refine ⟨.inl ⟨rfl, _, SqL.of h2⟩, ?_⟩
      refine tE_mono (one at_ R1 q1) fun y H2 ⟨w2, dy, R2, k2, h4, q2⟩ => ?_
      obtain ⟨dz, e, q3⟩ := q2.lift
      have h1' := R1.repS k2 h1
      unfold indexD at e
      split at e
      · rename_i ds d e1 e2
        split at e
        · rename_i hs
          obtain ⟨j, e3, rfl⟩ := Option.map_eq_some_iff.mp e
          obtain ⟨hs1, hs2⟩ := (Bool.and_eq_true _ _).mp hs
          obtain ⟨z, f1, f2, f3⟩ := findEq_some e3
          refine ⟨a0, y, d, ds, j, z, rfl, rfl, ?_, ?_, hs1, hs2, f1, f2, f3, q3 _ _ R2 Keep.refl (Fr.rep.s (d := .int (j : Nat)) R2 rfl s)⟩
          · rw [hK]; exact repS_dp h1' (by simp only [toPy, e1]; rfl)
          · rw [hK]; exact repS_dp h4 e2
        · cases e
      · cases e
    | _ => exact q1.elim
/-- list(range(a, b)), tuple(range(a, b)) -/
theorem se_rg2 {t : Bool} (hc : X.calm = true) (hg : Gl X (if t then ("tuple" : Str) else ("list" : Str))) (hm : X.mg (if t then ("tuple" : Str) else ("list" : Str)) = none) (hg2 : Gl X "range") (hm2 : X.mg "range" = none) (ha : PE X a (tE S false fa)) (hb : PE X b (tE S false fb))
    (hst : starEach [a, b] X.env = (false, eval a X.env) :: starEach [b] X.env) (hstb : starEach [b] X.env = (false, eval b X.env) :: starEach [] X.env) (hst2 : starEach [.Call (.Name "range" p2) [a, b] [] pos2] X.env = (false, eval (.Call (.Name "range" p2) [a, b] [] pos2) X.env) :: starEach [] X.env) :
    PE X (.Call (.Name (if t then ("tuple" : Str) else ("list" : Str)) p) [.Call (.Name "range" p2) [a, b] [] pos2] [] pos) (tE S s fun env => M.bind (fa env) fun x => M.bind (fb env) fun y => liftO (rgD t x y)) := by
  cases t with
  | false =>
    refine PE.weak (pe_listRg hc hg hm (prg_2 hg2 hm2 ha hb hst hstb (by rw [hstb]; rfl)) hst2) fun σ H Q ⟨c, w, at_, R, q⟩ => ?_
    refine tE_mono (one at_ R q) fun x H1 ⟨w1, dx, R1, k1, h1, q1⟩ => ?_
    refine tE_mono (one at_ R1 q1) fun y H2 ⟨w2, dy, R2, k2, h2, q2⟩ => ?_
    obtain ⟨dz, e, q3⟩ := q2.lift
    cases dx with
    | int lo =>
      cases repS_int h1
      cases dy with
      | int hi =>
        have e : (if small lo && small hi && decide ((hi - lo).toNat ≤ 16777216) then some (D.lst (((List.range (hi - lo).toNat).map fun (i : Nat) => lo + (i : Int)).map D.int)) else none) = some dz := e
        split at e
        · rename_i hz
          cases e
          cases repS_int h2
          obtain ⟨hz12, z3⟩ := (Bool.and_eq_true _ _).mp hz
          obtain ⟨z1, z2⟩ := (Bool.and_eq_true _ _).mp hz12
          obtain ⟨z4, z5⟩ := small_iff z1
          obtain ⟨z6, z7⟩ := small_iff z2
          refine ⟨lo, hi, rfl, rfl, ⟨z4, z5, z6, z7, of_decide_eq_true z3⟩, fun q0 hq => ?_⟩
          have R3 := R2.add (o := .lst (rgV lo hi)) hq
          exact q3 _ _ R3 (Keep.new hq) (Fr.rep.s (d := .lst (((List.range (hi - lo).toNat).map fun (i : Nat) => lo + (i : Int)).map D.int)) R3 (show Rep _ _ _ _ (.lst _) _ from ⟨q0, _, rfl, upd_same, R2.fresh hq, by unfold rgV; rw [show (fun i : Nat => V.int (lo + (i : Nat))) = V.int ∘ (fun i : Nat => lo + (i : Int)) from rfl, ← List.map_map]; exact rep_ints _⟩) s)
        · cases e
      | _ => cases e
    | _ => cases e
  | true =>
    refine PE.weak (pe_tupRg hc hg hm (prg_2 hg2 hm2 ha hb hst hstb (by rw [hstb]; rfl)) hst2) fun σ H Q ⟨c, w, at_, R, q⟩ => ?_
    refine tE_mono (one at_ R q) fun x H1 ⟨w1, dx, R1, k1, h1, q1⟩ => ?_
    refine tE_mono (one at_ R1 q1) fun y H2 ⟨w2, dy, R2, k2, h2, q2⟩ => ?_
    obtain ⟨dz, e, q3⟩ := q2.lift
    cases dx with
    | int lo =>
      cases repS_int h1
      cases dy with
      | int hi =>
        have e : (if small lo && small hi && decide ((hi - lo).toNat ≤ 16777216) then some (D.tup (((List.range (hi - lo).toNat).map fun (i : Nat) => lo + (i : Int)).map D.int)) else none) = some dz := e
        split at e
        · rename_i hz
          cases e
          cases repS_int h2
          obtain ⟨hz12, z3⟩ := (Bool.and_eq_true _ _).mp hz
          obtain ⟨z1, z2⟩ := (Bool.and_eq_true _ _).mp hz12
          obtain ⟨z4, z5⟩ := small_iff z1
          obtain ⟨z6, z7⟩ := small_iff z2
          refine ⟨lo, hi, rfl, rfl, ⟨z4, z5, z6, z7, of_decide_eq_true z3⟩, fun q0 hq => ?_⟩
          have R3 := R2.add (o := .tup (rgV lo hi)) hq
          exact q3 _ _ R3 (Keep.new hq) (Fr.rep.s (d := .tup (((List.range (hi - lo).toNat).map fun (i : Nat) => lo + (i : Int)).map D.int)) R3 (show Rep _ _ _ _ (.tup _) _ from ⟨q0, _, rfl, .inl ⟨upd_same, R2.fresh hq⟩, by unfold rgV; rw [show (fun i : Nat => V.int (lo + (i : Nat))) = V.int ∘ (fun i : Nat => lo + (i : Int)) from rfl, ← List.map_map]; exact rep_ints _⟩) s)
        · cases e
      | _ => cases e
    | _ => cases e
theorem se_rg1 {t : Bool} (hc : X.calm = true) (hg : Gl X (if t then ("tuple" : Str) else ("list" : Str))) (hm : X.mg (if t then ("tuple" : Str) else ("list" : Str)) = none) (hg2 : Gl X "range") (hm2 : X.mg "range" = none) (hb : PE X b (tE S false fb))
    (hst : starEach [b] X.env = (false, eval b X.env) :: starEach [] X.env) (hst2 : starEach [.Call (.Name "range" p2) [b] [] pos2] X.env = (false, eval (.Call (.Name "range" p2) [b] [] pos2) X.env) :: starEach [] X.env) :
    PE X (.Call (.Name (if t then ("tuple" : Str) else ("list" : Str)) p) [.Call (.Name "range" p2) [b] [] pos2] [] pos) (tE S s fun env => M.bind (M.pure (.int 0)) fun x => M.bind (fb env) fun y => liftO (rgD t x y)) := by
  cases t with
  | false =>
    refine PE.weak (pe_listRg hc hg hm (prg_1 hg2 hm2 hb hst) hst2) fun σ H Q ⟨c, w, at_, R, q⟩ => ?_
    have q : Wp S.g c S.EX (M.bind (fb c.env) fun y => liftO (rgD false (.int 0) y)) (c.repS s S.g) w H Q := q
    refine tE_mono (one at_ R q) fun y H2 ⟨w2, dy, R2, k2, h2, q2⟩ => ?_
    obtain ⟨dz, e, q3⟩ := q2.lift
    cases dy with
    | int hi =>
      have e : (if small 0 && small hi && decide ((hi - 0).toNat ≤ 16777216) then some (D.lst (((List.range (hi - 0).toNat).map fun (i : Nat) => 0 + (i : Int)).map D.int)) else none) = some dz := e
      split at e
      · rename_i hz
        cases e
        cases repS_int h2
        obtain ⟨hz12, z3⟩ := (Bool.and_eq_true _ _).mp hz
        obtain ⟨z1, z2⟩ := (Bool.and_eq_true _ _).mp hz12
        obtain ⟨z4, z5⟩ := small_iff z1
        obtain ⟨z6, z7⟩ := small_iff z2
        refine ⟨hi, rfl, ⟨z4, z5, z6, z7, of_decide_eq_true z3⟩, fun q0 hq => ?_⟩
        have R3 := R2.add (o := .lst (rgV 0 hi)) hq
        exact q3 _ _ R3 (Keep.new hq) (Fr.rep.s (d := .lst (((List.range (hi - 0).toNat).map fun (i : Nat) => 0 + (i : Int)).map D.int)) R3 (show Rep _ _ _ _ (.lst _) _ from ⟨q0, _, rfl, upd_same, R2.fresh hq, by unfold rgV; rw [show (fun i : Nat => V.int (0 + (i : Nat))) = V.int ∘ (fun i : Nat => 0 + (i : Int)) from rfl, ← List.map_map]; exact rep_ints _⟩) s)
      · cases e
    | _ => cases e
  | true =>
    refine PE.weak (pe_tupRg hc hg hm (prg_1 hg2 hm2 hb hst) hst2) fun σ H Q ⟨c, w, at_, R, q⟩ => ?_
    have q : Wp S.g c S.EX (M.bind (fb c.env) fun y => liftO (rgD true (.int 0) y)) (c.repS s S.g) w H Q := q
    refine tE_mono (one at_ R q) fun y H2 ⟨w2, dy, R2, k2, h2, q2⟩ => ?_
    obtain ⟨dz, e, q3⟩ := q2.lift
    cases dy with
    | int hi =>
      have e : (if small 0 && small hi && decide ((hi - 0).toNat ≤ 16777216) then some (D.tup (((List.range (hi - 0).toNat).map fun (i : Nat) => 0 + (i : Int)).map D.int)) else none) = some dz := e
      split at e
      · rename_i hz
        cases e
        cases repS_int h2
        obtain ⟨hz12, z3⟩ := (Bool.and_eq_true _ _).mp hz
        obtain ⟨z1, z2⟩ := (Bool.and_eq_true _ _).mp hz12
        obtain ⟨z4, z5⟩ := small_iff z1
        obtain ⟨z6, z7⟩ := small_iff z2
        refine ⟨hi, rfl, ⟨z4, z5, z6, z7, of_decide_eq_true z3⟩, fun q0 hq => ?_⟩
        have R3 := R2.add (o := .tup (rgV 0 hi)) hq
        exact q3 _ _ R3 (Keep.new hq) (Fr.rep.s (d := .tup (((List.range (hi - 0).toNat).map fun (i : Nat) => 0 + (i : Int)).map D.int)) R3 (show Rep _ _ _ _ (.tup _) _ from ⟨q0, _, rfl, .inl ⟨upd_same, R2.fresh hq⟩, by unfold rgV; rw [show (fun i : Nat => V.int (0 + (i : Nat))) = V.int ∘ (fun i : Nat => 0 + (i : Int)) from rfl, ← List.map_map]; exact rep_ints _⟩) s)
      · cases e
    | _ => cases e
end
end VI
end
section
set_option maxRecDepth 100000
namespace VI
open PySem PySem.Spec PyProof.Rows L2
/-! ### a op1 b op2 c op3 d -/
def tChain3 (r r' r'' : R2) (ta tb tc td : TE) : TE := fun σ H Q => ta σ H fun x H1 => tb σ H1 fun y H2 => r x y H2 fun z H3 => ∃ k, z = .bl k ∧
  (if k = true then tc σ H3 fun u H4 => r' y u H4 fun z2 H5 => ∃ k2, z2 = .bl k2 ∧ (if k2 = true then td σ H5 fun v H6 => r'' u v H6 Q else Q (.bl false) H5) else Q (.bl false) H3)
section
variable {X : Cx} {S : Sg} {s : Bool} {a b c' d' : Expr} {fa fb fc fd : Env → M D} {ta tb tc td : TE} {pos p p2 : Pos}
theorem pe_chain3 {op op' op'' : CmpOp} {r r' r'' : R2} (ho : OpR X (compareOp op) r) (ho' : OpR X (compareOp op') r') (ho'' : OpR X (compareOp op'') r'') (ha : PE X a ta) (hb : PE X b tb) (hc : PE X c' tc) (hd : PE X d' td)
    (hm : lastMarks [op, op', op''] [b, c', d'] = false) : PE X (.Compare a [op, op', op''] [b, c', d'] pos) (tChain3 r r' r'' ta tb tc td) := by
  refine ⟨fun pins s σ H Q I h => ?_⟩
  refine Compare_chain (thn (ha.run pins s σ H _ I h) fun v s1 ⟨x, H1, I1, r1, q1⟩ => chain_link (thn (hb.run pins s1 σ H1 _ I1 q1) fun u s2 ⟨y, H2, I2, r2, q2⟩ =>
    thn (ho pins s2 σ H2 x y v u _ I2 r1 r2 q2) fun d s3 ⟨z, H3, I3, r3, k, e, q3⟩ => ?_)) hm
  subst e
  cases r3
  refine wpAny_truthy_bool ?_
  cases k with
  | false => exact ite_ff ⟨.bl false, H3, I3, rfl, q3⟩
  | true =>
    refine ite_tt (chain_link (thn (hc.run pins s3 σ H3 _ I3 q3) fun w' s4 ⟨z', H4, I4, r4, q4⟩ => thn (ho' pins s4 σ H4 y z' u w' _ I4 r2 r4 q4) fun d2 s5 ⟨z2, H5, I5, r5, k2, e2, q5⟩ => ?_))
    subst e2
    cases r5
    refine wpAny_truthy_bool ?_
    cases k2 with
    | false => exact ite_ff ⟨.bl false, H5, I5, rfl, q5⟩
    | true => exact ite_tt (chain_last (thn (hd.run pins s5 σ H5 _ I5 q5) fun w'' s6 ⟨z3, H6, I6, r6, q6⟩ => ho'' pins s6 σ H6 z' z3 w' w'' Q I6 r4 r6 q6))
theorem pt_chain3 {op op' op'' : CmpOp} {r r' r'' : R2} (ho : OpR X (compareOp op) r) (ho' : OpR X (compareOp op') r') (ho'' : OpR X (compareOp op'') r'') (ha : PE X a ta) (hb : PE X b tb) (hc : PE X c' tc) (hd : PE X d' td)
    (hm : lastMarks [op, op', op''] [b, c', d'] = false) : PT X (.Compare a [op, op', op''] [b, c', d'] pos) (tTest (tChain3 r r' r'' ta tb tc td)) := by
  refine ⟨fun pins s σ H Q I h => ?_⟩
  refine isTrue_chain (thn (ha.run pins s σ H _ I h) fun v s1 ⟨x, H1, I1, r1, q1⟩ => test_link (thn (hb.run pins s1 σ H1 _ I1 q1) fun u s2 ⟨y, H2, I2, r2, q2⟩ =>
    thn (ho pins s2 σ H2 x y v u _ I2 r1 r2 q2) fun d s3 ⟨z, H3, I3, r3, k, e, q3⟩ => ?_)) hm
  subst e
  cases r3
  refine wpAny_truthy_bool ?_
  cases k with
  | false =>
    obtain ⟨k', e', q'⟩ := q3
    cases e'
    exact ite_ff ⟨H3, I3, q'⟩
  | true =>
    refine ite_tt (test_link (thn (hc.run pins s3 σ H3 _ I3 q3) fun w' s4 ⟨z', H4, I4, r4, q4⟩ => thn (ho' pins s4 σ H4 y z' u w' _ I4 r2 r4 q4) fun d2 s5 ⟨z2, H5, I5, r5, k2, e2, q5⟩ => ?_))
    subst e2
    cases r5
    refine wpAny_truthy_bool ?_
    cases k2 with
    | false =>
      obtain ⟨k', e', q'⟩ := q5
      cases e'
      exact ite_ff ⟨H5, I5, q'⟩
    | true =>
      refine ite_tt (test_last (thn (hd.run pins s5 σ H5 _ I5 q5) fun w'' s6 ⟨z3, H6, I6, r6, q6⟩ => thn (ho'' pins s6 σ H6 z' z3 w' w'' _ I6 r4 r6 q6) fun d' s7 ⟨z4, H7, I7, r7, k3, e3, q7⟩ => ?_))
      subst e3
      cases r7
      exact wpAny_truthy_bool ⟨H7, I7, q7⟩
def eChain3 (o1 o2 o3 : COp) (fa fb fc fd : Env → M D) : Env → M D := fun env => M.bind (fa env) fun x => M.bind (fb env) fun y => M.bind (liftO (cmpD o1 x y)) fun k =>
  if k then M.bind (fc env) fun z => M.bind (liftO (cmpD o2 y z)) fun k2 => if k2 then M.bind (fd env) fun u => M.bind (liftO (cmpD o3 z u)) fun b => M.pure (.bl b) else M.pure (.bl false) else M.pure (.bl false)
theorem se_chain3 {o1 o2 o3 : COp} (hK : X.K = S.g.K) (hu : X.A.units + 65 < cLine) (ha : PE X a (tE S false fa)) (hb : PE X b (tE S false fb)) (hc : PE X c' (tE S false fc)) (hd : PE X d' (tE S false fd)) (hm : lastMarks [cOf o1, cOf o2, cOf o3] [b, c', d'] = false) :
    PE X (.Compare a [cOf o1, cOf o2, cOf o3] [b, c', d'] pos) (tE S s (eChain3 o1 o2 o3 fa fb fc fd)) :=
  PE.weak (pe_chain3 (cmpd (o := o1) hK hu) (cmpd (o := o2) hK hu) (cmpd (o := o3) hK hu) ha hb hc hd hm) fun σ H Q ⟨c, w, at_, R, q⟩ => tE_mono (two at_ R q) fun x H1 h1 => tE_mono h1 fun y H2 ⟨w, dx, dy, R2, h3, h4, q2⟩ => by
    obtain ⟨k, e, h⟩ := q2.liftB
    refine ⟨c, w, dx, dy, k, R2, h3, h4, e, k, rfl, ?_⟩
    cases k with
    | false => exact iteF (fin_flat R2 h rfl)
    | true =>
      refine iteT (tE_mono (one at_ R2 h) fun z H3 ⟨w3, dz, R3, k3, h5, q3⟩ => ?_)
      obtain ⟨k2, e2, h2⟩ := q3.liftB
      refine ⟨c, w3, dy, dz, k2, R3, R2.repS k3 h4, h5, e2, k2, rfl, ?_⟩
      cases k2 with
      | false => exact iteF (fin_flat R3 h2 rfl)
      | true =>
        refine iteT (tE_mono (one at_ R3 h2) fun u H4 ⟨w4, du, R4, k4, h6, q4⟩ => ?_)
        obtain ⟨k5, e5, h7⟩ := q4.liftB
        exact ⟨c, w4, dz, du, k5, R4, R3.repS k4 h5, h6, e5, fin_flat R4 h7 rfl⟩
theorem st_chain3 {o1 o2 o3 : COp} (hK : X.K = S.g.K) (hu : X.A.units + 65 < cLine) (ha : PE X a (tE S false fa)) (hb : PE X b (tE S false fb)) (hc : PE X c' (tE S false fc)) (hd : PE X d' (tE S false fd)) (hm : lastMarks [cOf o1, cOf o2, cOf o3] [b, c', d'] = false) :
    PT X (.Compare a [cOf o1, cOf o2, cOf o3] [b, c', d'] pos) (tT S (tst (eChain3 o1 o2 o3 fa fb fc fd))) :=
  PT.weak (pt_chain3 (cmpd (o := o1) hK hu) (cmpd (o := o2) hK hu) (cmpd (o := o3) hK hu) ha hb hc hd hm) fun σ H Q ⟨c, w, at_, R, q⟩ => by
    have q : Wp S.g c S.EX (M.bind (fa c.env) fun x => M.bind (fb c.env) fun y => M.bind (liftO (cmpD o1 x y)) fun k => if k = true then M.bind (fc c.env) fun z => M.bind (liftO (cmpD o2 y z)) fun k2 => if k2 = true then M.bind (fd c.env) fun u => liftO (cmpD o3 z u) else M.pure false else M.pure false) (fun _ a b => a = b) w H Q := by
      have e : tst (eChain3 o1 o2 o3 fa fb fc fd) c.env = (M.bind (fa c.env) fun x => M.bind (fb c.env) fun y => M.bind (liftO (cmpD o1 x y)) fun k => if k = true then M.bind (fc c.env) fun z => M.bind (liftO (cmpD o2 y z)) fun k2 => if k2 = true then M.bind (fd c.env) fun u => liftO (cmpD o3 z u) else M.pure false else M.pure false) := by
        unfold tst eChain3
        rw [M.bind_assoc]
        congr 1; funext x
        rw [M.bind_assoc]
        congr 1; funext y
        rw [M.bind_assoc]
        congr 1; funext k
        cases k with
        | false => rfl
        | true =>
          simp only [if_true]
          rw [M.bind_assoc]
          congr 1; funext z
          rw [M.bind_assoc]
          congr 1; funext k2
          cases k2 with
          | false => rfl
          | true =>
            simp only [if_true]
            rw [M.bind_assoc]
            congr 1; funext u
            rw [M.bind_assoc]
            cases cmpD o3 z u <;> rfl
      rw [← e]; exact q
    exact tE_mono (two at_ R q) fun x H1 h1 => tE_mono h1 fun y H2 ⟨w, dx, dy, R2, h3, h4, q2⟩ => by
      obtain ⟨k, e, h⟩ := q2.liftB
      refine ⟨c, w, dx, dy, k, R2, h3, h4, e, k, rfl, ?_⟩
      cases k with
      | false => exact iteF ⟨false, rfl, h H2 false R2 Keep.refl rfl⟩
      | true =>
        refine iteT (tE_mono (one at_ R2 h) fun z H3 ⟨w3, dz, R3, k3, h5, q3⟩ => ?_)
        obtain ⟨k2, e2, h2⟩ := q3.liftB
        refine ⟨c, w3, dy, dz, k2, R3, R2.repS k3 h4, h5, e2, k2, rfl, ?_⟩
        cases k2 with
        | false => exact iteF ⟨false, rfl, h2 H3 false R3 Keep.refl rfl⟩
        | true =>
          refine iteT (tE_mono (one at_ R3 h2) fun u H4 ⟨w4, du, R4, k4, h6, q4⟩ => ?_)
          obtain ⟨k5, e5, h7⟩ := q4.lift
          exact ⟨c, w4, dz, du, k5, R4, R3.repS k4 h5, h6, e5, k5, rfl, h7 H4 k5 R4 Keep.refl rfl⟩
end
end VI
end
section
set_option maxRecDepth 100000
set_option maxHeartbeats 2000000
namespace VI
open PySem PySem.Spec PyProof.Rows L2 LamX
/-! ### a lambda given to a def that calls it and catches -/
/-- the lambda's body, entered at s -/
def lamN (X : Cx) (A : Around) (outer : List PySem.Env) (s : Shared) (H : Hp) (E : XK) (scope : Scope) (f c' : Addr) : Cx :=
  (lamCx X A outer s H E scope f c').wish fun e z => wpAny (model X.prog X.w) (A.deeper (lamEnv X scope s.heap.objs.size f c')) (leaving (lamEnv X scope s.heap.objs.size f c') e) (fun _ z2 => L2N.CX X.prog X.w outer H s E e z2) (fun e2 z2 => L2N.CX X.prog X.w outer H s E e2 z2) z
/-- the def's context, entered at s -/
abbrev gotN (CXg : CXT) (X : Cx) (Ng : List Str) (qg : Str) (sg : Scope) (g : Addr) (cdg : Value) (s : Shared) (H : Hp) (Eg : XK) (pn : List (Addr × Obj)) (xe : Value → Shared → Prop) : Cx := (cxOf CXg X.prog X.w X.K X.mg X.base Ng qg sg g cdg X.A X.stack s H Eg).tr pn xe
section
variable {X : Cx} {pins : List (Addr × Obj)} {σ : L2.St} {H : Hp} {s : Shared}
theorem actN {CXg : CXT} {Eg : XK} {Ng : List Str} {qg : Str} {sg : Scope} {g f c' : Addr} {cdg pm ctv : Value} {params : Arguments} {body : Expr} {scope : Scope} {k i : Nat} {a : Str} {pn : List (Addr × Obj)} {xe : Value → Shared → Prop} {W : WX} {E : XK} {tb : TE} {p1 p2 : Pos}
    (I : Inv X pins σ H s) (L : LamS X.env.scope scope) (hf : s.heap.get? f = some (PySem.W.kla_obj "<lambda>" (X.env.qual ++ "<lambda>") params body scope (cloFrom X.env.cells scope.names []) pm c' ctv)) (nf : H f = none) (of : f ∉ frs X.stack)
    (hb : bindArgs (PySem.W.kla_fn "<lambda>" (X.env.qual ++ "<lambda>") params body scope (cloFrom X.env.cells scope.names []) pm (.ref c') ctv) ⟨[], []⟩ = pure [])
    (tk : L2N.Takes (gotN CXg X Ng qg sg g cdg s H Eg pn xe) W) (room : Room (k + 1) (X.A.deeper (envOfC qg sg s.heap.objs.size g cdg)))
    (run : ∀ (A : Around) (outer : List PySem.Env) (z : Shared) (G : Hp), Room k (A.deeper (lamEnv X scope z.heap.objs.size f c')) → PE (lamN X A outer z G E scope f c') body tb)
    (hN : Ng[i]? = some a) (hv : Vis sg a) (hd : (a == ("__debug__" : Str)) = false) (hcd : (a == ("__classdict__" : Str)) = false) :
    PE (gotN CXg X Ng qg sg g cdg s H Eg pn xe) (.Call (.Name a p1) [] [] p2) fun τ G Q => τ[i]? = some (some (.ref f)) ∧ G c' = some (CodeO c' (X.env.qual ++ "<lambda>")) ∧ (∀ cls d M, E cls d M → W cls d τ M) ∧ tb σ G Q := by
  refine ⟨fun pz sz τ G Q J ⟨h1, h2, hW, h3⟩ => ?_⟩
  refine wpAny_Call_Name_kw (thn ((pe_var (pos := p1) (i := i) hN hv hd hcd).run pz sz τ G (fun v G1 => v = .ref f ∧ G1 = G) J ⟨.ref f, h1, rfl, rfl⟩) fun u s1 ⟨v, G1, J1, r1, q1, q2⟩ => ?_)
  subst q1
  subst q2
  obtain rfl : u = Value.ref f := r1
  have un : Un (frs X.stack) [] H G1 s.heap s1.heap := J1.base
  have fn1 := un.keep f _ hf nf of fun z => by cases z
  refine PySem.W.callWith_F0 ⟨_, _, _, _, fn1⟩ ?_
  obtain ⟨⟨oc, vs, t, ec, ed, ev⟩, _, _⟩ := J1.hok c' _ h2
  have code : codeAny (model X.prog X.w) (X.A.deeper (envOfC qg sg s.heap.objs.size g cdg)) (.call (.ref f) ⟨[], []⟩) (CR (L2N.CX X.prog X.w) (envOfC qg sg s.heap.objs.size g cdg :: X.stack) X.prog X.w G1 s1 Q E) s1 := by
    refine PySem.W.kla_callFunE room.depth fn1 rfl L.co L.gen rfl ⟨c', oc, vs, t, rfl, ec, ed, ev⟩ ?_
    rw [hb]
    refine wpAny_pure (wpAny_newFunctionEnv (fun y hy => (L.own y hy).2) (fun y hy => by cases hy) (fun h₁ hns hsb => ⟨J1.nolimit.fresh _ hsb, ?_⟩) L.kind)
    show codeAny (model X.prog X.w) _ (.expr body (lamEnv X scope s1.heap.objs.size f c')) _ _
    have old : ∀ b o, s1.heap.get? b = some o → h₁.get? b = some o := fun b o e => hsb.extBut b o (Nat.ne_of_lt (Heap.lt_size e)) (Heap.get?_push_of_some _ e)
    have K : Inv (lamN X (X.A.deeper (envOfC qg sg s.heap.objs.size g cdg)) (envOfC qg sg s.heap.objs.size g cdg :: X.stack) s1 G1 E scope f c') [] σ G1 { s1 with heap := h₁, toks := s1.toks + ([] : List (Str × Value)).length } :=
      (lam_start2 I L J1.env0 room.hd un hns old).wish _
    refine PySem.W.kla_codeExpr (wpAny_mono ((run _ _ s1 G1 (room.deeper _)).run [] _ _ G1 Q K h3) (fun v z hq => ?_) fun e z hq => hq)
    obtain ⟨w', G', K', rv, q⟩ := hq
    exact ⟨w', G', K'.os, K'.bare, K'.base, K'.hok, rv, q⟩
  refine wpAny_call (codeAny_mono code fun r z hq => ?_)
  cases r with
  | error e => exact tk e z (L2N.XE.of_call J1 (fun cls d M h => hW cls d M h) hq)
  | ok fl =>
    cases fl with
    | ret u => exact J1.after hq
    | next => exact hq.elim
    | brk => exact hq.elim
    | cont => exact hq.elim
/-- a def that gets a lambda: TT is what it makes of the lambda's reading -/
def GivesN (X : Cx) (Ng : List Str) (x : Str) (sg : Scope) (g : Addr) (cdg : Value) (bg : List Stmt) (a : Str) (q : Str) (TT : (XK → Hp → VK → Prop) → Hp → VK → Prop) : Prop :=
  ∀ (f c' : Addr) (s : Shared) (H : Hp) (Q : VK) (tl : XK → Hp → VK → Prop),
    (∀ (W : WX) (pn : List (Addr × Obj)) (xe : Value → Shared → Prop) (E : XK) (p1 p2 : Pos), L2N.Takes (gotN C8.CX0 X Ng x sg g cdg s H C8.E0 pn xe) W →
      PE (gotN C8.CX0 X Ng x sg g cdg s H C8.E0 pn xe) (.Call (.Name a p1) [] [] p2) fun τ G Q => τ[0]? = some (some (.ref f)) ∧ G c' = some (CodeO c' q) ∧ (∀ cls d M, E cls d M → W cls d τ M) ∧ tl E G Q) →
    H c' = some (CodeO c' q) → TT tl H Q → ∃ t, PSs (cxOf C8.CX0 X.prog X.w X.K X.mg X.base Ng x sg g cdg X.A X.stack s H C8.E0).nox bg t ∧ t { nx := fun _ G => Q .non G, rt := Q } (L2.start Ng [.ref f]) H
theorem pe_lamN {T : List (Addr × Str)} {TT : (XK → Hp → VK → Prop) → Hp → VK → Prop} {x a : Str} {g c P : Addr} {k : Nat} {pg : Arguments} {bg : List Stmt} {sg : Scope} {dV kV doc pm cdv ct oc : Value} {an od : Option Addr} {osl : Array (Option Value)} {Ng : List Str}
    {params : Arguments} {body : Expr} {scope : Scope} {t : XK → TE} {p lpos pos : Pos} (hg : Gl X x) (hm : X.mg x = some (.ref g)) (kg : PySem.W.keepIn X.K (.ref g) = true)
    (lk : X.K.lookup g = some ⟨oc, od, .func (PySem.W.fnOf x x pg bg sg dV kV doc pm an cdv ct), osl⟩) (cg : PySem.W.codeIn X.K cdv x = true) (bd : L2.Binds X.K (PySem.W.fnOf x x pg bg sg dV kV doc pm an cdv ct) [a] []) (Sg : FnScope Ng [a] sg) (n0 : Ng[0]? = some a) (va : Vis sg a)
    (G : GivesN X Ng x sg g cdv bg a (X.env.qual ++ "<lambda>") TT) (TB : TabB X.base X.mg c P) (code : X.env.code = .ref c) (inT : (P, X.env.qual ++ "<lambda>") ∈ T) (one : ∀ p ∈ T, p.1 = P → p.2 = X.env.qual ++ "<lambda>") (room : Room (k + 2) X.A) (L : LamS X.env.scope scope) (nd : defaultsOf params X.env = ([], []))
    (bl : ∀ (q : Str) (cl : List (Str × Addr)) (pm cv ctv : Value), bindArgs (PySem.W.kla_fn "<lambda>" q params body scope cl pm cv ctv) ⟨[], []⟩ = pure [])
    (run : ∀ (A : Around) (outer : List PySem.Env) (z : Shared) (G : Hp) (E : XK) (f c' : Addr), Room k (A.deeper (lamEnv X scope z.heap.objs.size f c')) → PE (lamN X A outer z G E scope f c') body (t E))
    (d1 : (x == ("__debug__" : Str)) = false) (d2 : (a == ("__debug__" : Str)) = false) (d3 : (a == ("__classdict__" : Str)) = false) : PE X (.Call (.Name x p) [.Lambda params body scope lpos] [] pos) (tLam T TT t) := by
  refine ⟨fun pins s σ H Q I ⟨hT, h⟩ => ?_⟩
  refine wpAny_Call_Name_kw (ld_glob I hg hm (PySem.W.callWith_K (h₀ := X.base) I.ok.mod.kin kg ?_ (by rfl) (by rfl)) d1)
  show wpAny (model X.prog X.w) X.A (spliced ((false, eval (.Lambda params body scope lpos) X.env) :: backTo pos (starEach [] X.env))) _ _ s
  refine Calls.spliced_cons (lam_make2 I TB code inT one hT nd (L.has I.ok) fun f c' pm' ctv H1 z I1 eN T1 hf nf of co => Calls.spliced_nil ⟨I1.kIn, ?_⟩)
  have called : codeAny (model X.prog X.w) X.A (.call (.ref g) ⟨[.ref f], []⟩) (CR C8.CX0 X.stack X.prog X.w H1 z Q C8.E0) z :=
    run_ofS (N := Ng) (ps := [a]) (us := [.ref f]) (vs := [.ref f]) lk cg Sg room I1.env0 (bd z [.ref f] I1.kIn rfl) (.cons rfl .nil) rfl fun room' => by
      obtain ⟨u, hu, hq⟩ := G f c' z H1 Q (fun E M R => t E σ M R) (fun W pn xe E p1 p2 tk => actN (i := 0) I1 L hf nf of (bl _ _ _ _ _) tk room' (fun A outer y M r2 => run A outer y M E f c' r2) n0 va d2 d3) co (h H1 eN T1)
      exact ⟨u, hu.nox, hq⟩
  refine wpAny_call (codeAny_mono called fun r z2 hq => ?_)
  cases r with
  | error e => exact (show False from hq).elim
  | ok fl =>
    cases fl with
    | ret u => exact I1.after hq
    | next => exact hq.elim
    | brk => exact hq.elim
    | cont => exact hq.elim
end
end VI
end
section
set_option maxRecDepth 100000
set_option maxHeartbeats 2000000
namespace VI
open PySem PySem.Spec PyProof.Rows L2 LamX
/-! ### what is told of an error -/
abbrev Gb.at (g : Gb) (k : Nat) (a : Addr) : Gb := { g with ex := some (k, a) }
/-- what an exception must meet there -/
def ErrQ (g : Gb) (T : List (Addr × Str)) (n : Nat) (N : List Str) (ars : List Nat) (t : ErrT) (cls : Value) (d : Option Addr) (H : Hp) (Q : VK) : Prop :=
  ∃ k, k < n ∧ cls = .ref (g.ca k) ∧ d = none ∧ ∀ a f : Addr, H a = none → tSt ⟨g.at k a, T, none, [], fun _ _ _ => False⟩ [] [] (execs (fun _ _ => VI.M.no) noEt ars t.suite) { nx := fun _ _ => False, rt := Q } ((L2.start N [.ref f]).set t.es (some (.ref a))) H
def TTe (g : Gb) (T : List (Addr × Str)) (n : Nat) (N : List Str) (ars : List Nat) (t : ErrT) : (XK → Hp → VK → Prop) → Hp → VK → Prop := fun tl H Q =>
  tl (fun cls d H' => ErrQ g T n N ars t cls d H' Q) H fun _ H' => Q (.str t.none) H'
theorem Keep.of_none {cup : Option Addr} {H H' : Hp} (k : Keep none H H') : Keep cup H H' := ⟨fun b o e _ nt => k.k b o e (fun z => by cases z) nt, k.al⟩
theorem run_str {t : ErrT} {ars : List Nat} {k : Nat} {z : Str} (h : t.run ars k = some z) : execs (fun _ _ => VI.M.no) noEt ars t.suite (t.env k) [] = .ok (.ret (.str z)) [] := by
  unfold ErrT.run VI.M.bind at h
  cases e : execs (fun _ _ => VI.M.no) noEt ars t.suite (t.env k) [] with
  | ok fl w =>
    rw [e] at h
    cases fl with
    | ret d =>
      cases d with
      | str y =>
        cases w with
        | nil => cases h; rfl
        | cons _ _ => cases h
      | _ => cases h
    | nx _ => cases w <;> cases h
    | brk _ => cases h
    | cont _ => cases h
  | ex _ _ => rw [e] at h; cases h
  | no => rw [e] at h; cases h
section
variable {X : Cx} {S : Sg} {s : Bool}
theorem se_err {cl : Nat → List D → M D} {et : Nat → Str × (Nat → Option Str)} {ars : List Nat} {gi : Nat} {b : E} {t : ErrT} {n : Nat} {x a : Str} {ge c P : Addr} {k : Nat} {pg : Arguments} {bg : List Stmt} {sg : Scope} {dV kV doc pm cdv ct oc : Value} {an od : Option Addr} {osl : Array (Option Value)} {Ng : List Str}
    {params : Arguments} {body : Expr} {scope : Scope} {p lpos pos : Pos} (hg : Gl X x) (hm : X.mg x = some (.ref ge)) (kg : PySem.W.keepIn X.K (.ref ge) = true)
    (lk : X.K.lookup ge = some ⟨oc, od, .func (PySem.W.fnOf x x pg bg sg dV kV doc pm an cdv ct), osl⟩) (cg : PySem.W.codeIn X.K cdv x = true) (bd : L2.Binds X.K (PySem.W.fnOf x x pg bg sg dV kV doc pm an cdv ct) [a] []) (Sc : FnScope Ng [a] sg) (n0 : Ng[0]? = some a) (va : Vis sg a)
    (GV : GivesN X Ng x sg ge cdv bg a (X.env.qual ++ "<lambda>") (TTe S.g S.T n Ng ars t)) (TB : TabB X.base X.mg c P) (code : X.env.code = .ref c) (inT : (P, X.env.qual ++ "<lambda>") ∈ S.T) (one_ : ∀ p ∈ S.T, p.1 = P → p.2 = X.env.qual ++ "<lambda>") (room : Room (k + 2) X.A) (L : LamS X.env.scope scope) (nd : defaultsOf params X.env = ([], []))
    (bl : ∀ (q : Str) (cl : List (Str × Addr)) (pm cv ctv : Value), bindArgs (PySem.W.kla_fn "<lambda>" q params body scope cl pm cv ctv) ⟨[], []⟩ = pure [])
    (run : ∀ (A : Around) (outer : List PySem.Env) (z : Shared) (M : Hp) (E : XK) (f c' : Addr), Room k (A.deeper (lamEnv X scope z.heap.objs.size f c')) → PE (lamN X A outer z M E scope f c') body (tE { S with EX := E } false (evalE cl et ars b)))
    (d1 : (x == ("__debug__" : Str)) = false) (d2 : (a == ("__debug__" : Str)) = false) (d3 : (a == ("__classdict__" : Str)) = false)
    (het : et gi = (t.none, fun k => if k < n then t.run ars k else none)) (hes : t.es < t.slots) (hsl : Ng.length = t.slots) (hne : 0 < Ng.length) : PE X (.Call (.Name x p) [.Lambda params body scope lpos] [] pos) (tE S s (evalE cl et ars (.err gi b))) := by
  refine PE.weak (pe_lamN (T := S.T) (TT := TTe S.g S.T n Ng ars t) (t := fun E => tE { S with EX := E } false (evalE cl et ars b)) hg hm kg lk cg bd Sc n0 va GV TB code inT one_ room L nd bl run d1 d2 d3) fun σ H Q ⟨f, w, at_, R, q⟩ => ?_
  have eT : f.T = S.T := at_.2.1
  refine ⟨by rw [← eT]; exact R.tabs, fun H1 ext T1 => ?_⟩
  have K1 : Keep f.cup H H1 := ⟨fun b o e _ nt => ext b o e nt, fun b z u eu nt => z u (ext b u eu nt) nt⟩
  have R1 : Rel S.g f w H1 := R.after K1 (fun y hy => by
    obtain ⟨vs, e, r⟩ := R.cupOk y hy
    exact ⟨vs, ext _ _ e noTbl_lst, R.reps K1 r⟩) (by rw [eT]; exact T1)
  refine ⟨f, w, at_, R1, ?_⟩
  have q : Wp S.g f S.EX (evalE cl et ars (.err gi b) f.env) (f.repS s S.g) w H Q := q
  unfold Wp at q ⊢
  have ev : evalE cl et ars (.err gi b) f.env w = (match evalE cl et ars b f.env w with
    | .ok _ w' => .ok (.str (et gi).1) w'
    | .ex c w' => match (et gi).2 c with
      | some z => .ok (.str z) w'
      | none => .no
    | .no => .no) := rfl
  rw [ev] at q
  cases e : evalE cl et ars b f.env w with
  | ok d w1 =>
    rw [e, het] at q
    exact fun H' v R2 k2 _ => q H' (.str t.none) R2 (K1.trans k2) (Fr.rep.s (d := .str t.none) R2 rfl s)
  | ex k0 w1 =>
    rw [e, het] at q
    intro H' R2 k2
    by_cases lt : k0 < n
    · dsimp only at q
      rw [if_pos lt] at q
      cases er : t.run ars k0 with
      | none => rw [er] at q; exact q.elim
      | some z =>
        rw [er] at q
        refine ⟨k0, lt, rfl, rfl, fun ea fa _ => ?_⟩
        refine ⟨⟨S.T, none, fun _ => False, H', [], t.env k0, (L2.start Ng [V.ref fa]).set t.es (some (.ref ea))⟩, [], ⟨rfl, rfl, rfl, fun i => by simp⟩, ?_, ?_⟩
        · exact {
            len := by
              show (t.env k0).length = ((L2.start Ng [V.ref fa]).set t.es (some (V.ref ea))).length
              unfold ErrT.env L2.start
              simp
              omega
            ground := Keep.refl
            lists := fun b z => by rcases z with z | z <;> first | exact z.elim | cases z
            cupB := fun b z => by cases z
            new := fun p hp => by cases hp
            cupOk := fun b z => by cases z
            ndS := List.nodup_nil
            ndA := List.nodup_nil
            val := fun i d e => by
              have e : ((List.replicate t.slots Option.none).set t.es (some (D.exn k0)))[i]? = some (some d) := e
              by_cases hi : t.es = i
              · subst hi
                rw [List.getElem?_set_self (by simpa using hes)] at e
                cases e
                refine ⟨.ref ea, List.getElem?_set_self ?_, .inr ⟨by simp, ea, rfl, rfl⟩⟩
                unfold L2.start
                simp
                omega
              · rw [List.getElem?_set_ne hi, List.getElem?_replicate] at e
                split at e <;> cases e
            tabs := by
              have := R2.tabs
              rw [eT] at this
              exact this }
        · show WpS _ _ _ _ _ _ (execs (fun _ _ => VI.M.no) noEt ars t.suite (t.env k0) [])
          rw [run_str er]
          intro v H2 k3 _ t3 rr
          cases rr
          have K3 : Keep f.cup H' H2 := Keep.of_none k3
          have R3 : Rel S.g f w1 H2 := R2.after K3 (fun y hy => by
            obtain ⟨vs, e, r⟩ := R2.cupOk y hy
            exact ⟨vs, k3.k _ _ e (fun z => by cases z) noTbl_lst, R2.reps K3 r⟩) (by rw [eT]; exact t3)
          exact q H2 (.str z) R3 ((K1.trans k2).trans K3) (Fr.rep.s (d := .str z) R3 rfl s)
    · dsimp only at q
      rw [if_neg lt] at q
      exact q.elim
  | no => rw [e] at q; exact q.elim
end
end VI
end
section
set_option maxRecDepth 100000
namespace VI
open PySem PySem.Spec PyProof.Rows L2
/-! ### a text against its VI term: what is checked -/
/-- where an expression stands: the slots' names, the scope, the own lists, whether at a def's own level -/
abbrev tt : Str → Bool := fun _ => true
structure Sc where
  N : List Str
  sc : Scope
  own : List Nat
  top : Str → Bool
  mtd : List Nat
  mode : Nat
  lam : Bool
mutual
def beqD : D → D → Bool
  | .non, .non => true
  | .bl a, .bl b => a == b
  | .int a, .int b => a == b
  | .str a, .str b => a == b
  | .tup a, .tup b => beqDs a b
  | .lst a, .lst b => beqDs a b
  | .fn a, .fn b => a == b
  | .cup, .cup => true
  | .exn a, .exn b => a == b
  | _, _ => false
def beqDs : List D → List D → Bool
  | [], [] => true
  | a :: as, b :: bs => beqD a b && beqDs as bs
  | _, _ => false
end
mutual
theorem beqD_eq : ∀ {a b : D}, beqD a b = true → a = b
  | .non, b, h => by cases b <;> first | rfl | cases h
  | .bl a, b, h => by cases b <;> first | (cases h; done) | (have h : (a == _) = true := h; rw [eq_of_beq h])
  | .int a, b, h => by cases b <;> first | (cases h; done) | (have h : (a == _) = true := h; rw [eq_of_beq h])
  | .str a, b, h => by cases b <;> first | (cases h; done) | (have h : (a == _) = true := h; rw [eq_of_beq h])
  | .fn a, b, h => by cases b <;> first | (cases h; done) | (have h : (a == _) = true := h; rw [eq_of_beq h])
  | .cup, b, h => by cases b <;> first | rfl | cases h
  | .exn a, b, h => by cases b <;> first | (cases h; done) | (have h : (a == _) = true := h; rw [eq_of_beq h])
  | .tup a, b, h => by
    cases b with
    | tup b => rw [beqDs_eq (a := a) (b := b) h]
    | _ => cases h
  | .lst a, b, h => by
    cases b with
    | lst b => rw [beqDs_eq (a := a) (b := b) h]
    | _ => cases h
theorem beqDs_eq : ∀ {a b : List D}, beqDs a b = true → a = b
  | [], [], _ => rfl
  | [], _ :: _, h => by cases h
  | _ :: _, [], h => by cases h
  | a :: as, b :: bs, h => by
    have h : (beqD a b && beqDs as bs) = true := h
    rw [Bool.and_eq_true] at h
    rw [beqD_eq h.1, beqDs_eq h.2]
end
def visB (sc : Scope) (x : Str) : Bool := match sc.names.lookup x with
  | some .local => true
  | some .cell => true
  | some .free => true
  | _ => false
def locB (sc : Scope) (x : Str) : Bool := sc.names.lookup x == some .local
def glB (sc : Scope) (x : Str) : Bool := sc.names.lookup x == some .globalImplicit
def nodB (x : Str) : Bool := !(x == ("__debug__" : Str)) && !(x == ("__classdict__" : Str)) && !(x == ("__name__" : Str))
def varB (Γ : Sc) (i : Nat) (x : Str) : Bool := Γ.N[i]? == some x && visB Γ.sc x && nodB x
def okVar (Γ : Sc) (s : Bool) (i : Nat) : Expr → Bool
  | .Name x _ => varB Γ i x && (!s || !Γ.own.contains i)
  | _ => false
def glbB (Γ : Sc) (x : Str) : Bool := glB Γ.sc x && nodB x
def okCon (G : Cst) (Γ : Sc) (d : D) : Expr → Bool
  | .Constant c _ _ => match d, c with
    | .non, .none => true
    | .bl a, .bool b => a == b
    | .int a, .int b => a == b
    | .str a, .str b => a == b
    | _, _ => false
  | .Name x _ => glbB Γ x && match d with
    | .fn k => (G.fns[k]?).map (·.1) == some x
    | _ => G.con.any fun p => p.1 == x && beqD p.2 d
  | _ => false
def opB : BOp → Operator → Bool
  | .add, .Add => true
  | .sub, .Sub => true
  | .mul, .Mult => true
  | .fdiv, .FloorDiv => true
  | .mod, .Mod => true
  | .pow, .Pow => true
  | _, _ => false
theorem opB_eq {o : BOp} {op : Operator} (h : opB o op = true) : op = opOf o := by cases o <;> cases op <;> first | rfl | cases h
def cmB : COp → CmpOp → Bool
  | .eq, .Eq => true
  | .ne, .NotEq => true
  | .lt, .Lt => true
  | .le, .LtE => true
  | .gt, .Gt => true
  | .ge, .GtE => true
  | .inn, .In => true
  | .notin, .NotIn => true
  | .is, .Is => true
  | .isnot, .IsNot => true
  | _, _ => false
theorem cmB_eq {o : COp} {op : CmpOp} (h : cmB o op = true) : op = cOf o := by cases o <;> cases op <;> first | rfl | cases h
def noStar : Expr → Bool
  | .Starred _ _ => false
  | _ => true
def noSet : Expr → Bool
  | .Set _ _ _ => false
  | _ => true
def isTupX : Expr → Bool
  | .Tuple _ _ _ => true
  | _ => false
def noSlice : Expr → Bool
  | .Slice _ _ _ _ => false
  | _ => true
def biN : Bi → Option Str
  | .len => some "len" | .abs => some "abs" | .max => some "max" | .min => some "min" | .sum => some "sum" | .sorted => some "sorted"
  | .list => some "list" | .tuple => some "tuple" | .all => some "all" | .any => some "any" | .int => some "int"
  | _ => none
def freeB (G : Cst) (Γ : Sc) (x : Str) : Bool := glbB Γ x && G.free.contains x
def tyS : Ty → Str
  | .int => "int" | .bool => "bool" | .tuple => "tuple" | .list => "list" | .str => "str"
def tyB (t : Ty) (x : Str) : Bool := x == tyS t
def tysB (G : Cst) (Γ : Sc) : List Ty → Str → Bool
  | [t], m => tyB t m && freeB G Γ m
  | _, _ => false
mutual
def okT (Γ : Sc) : T → Expr → Bool
  | .nm i, x => match x with
    | .Name n _ => Γ.N[i]? == some n && (locB Γ.sc n || (Γ.top n && Γ.sc.names.lookup n == some .cell)) && !Γ.own.contains i
    | _ => false
  | .tp ts, x => match x with
    | .Tuple xs _ _ => okTs Γ ts xs
    | _ => false
def okTs (Γ : Sc) : Ts → List Expr → Bool
  | .nil, xs => xs.isEmpty
  | .cons t ts, xs => match xs with
    | x :: xs => noStar x && okT Γ t x && okTs Γ ts xs
    | [] => false
end
/-- the block of a comprehension -/
def blkB (Γ : Sc) (scope : Scope) (own : List (Str × Nat)) : Bool :=
  scope.kind == .function && scope.names.all (fun y => scope.names.lookup y.1 == some y.2) && own.all (fun p => Γ.N[p.2]? == some p.1) &&
    scope.names.all (fun y => y.2 != .free || (Γ.sc.names.lookup y.1 == some .cell || Γ.sc.names.lookup y.1 == some .free)) &&
    scope.names.all (fun y => !(y.2 == .local || y.2 == .cell) || ((own.map (·.1)).contains y.1 || !Γ.N.contains y.1))
def ownOf (Γ : Sc) (l : List Nat) : List (Str × Nat) := l.map fun i => (Γ.N.getD i "", i)
def Sc.blk (Γ : Sc) (scope : Scope) : Sc := { Γ with sc := relS scope Γ.sc, top := fun x => scope.names.lookup x == some .cell, mode := if Γ.mode = 0 then 0 else 2 }
def Sc.lamSc (Γ : Sc) (scope : Scope) : Sc := { Γ with sc := scope, top := fun _ => false, lam := false }
def noPar : Arguments → Bool
  | ⟨[], [], none, [], [], none, []⟩ => true
  | _ => false
def biCalm : Bi → Bool
  | .len => false | .abs => false | .sorted => false | .list => false | .tuple => false | .int => false | .gcd => false
  | _ => true
def isStrC : Expr → Option Str
  | .Constant (.str z) _ _ => some z
  | _ => none
def okBlk (Γ : Sc) (t : T) (scope : Scope) : Bool := blkB Γ scope (ownOf Γ t.slots) && t.slots.all fun i => !Γ.own.contains i
section
variable (G : Cst)
mutual
def okE (Γ : Sc) (s : Bool) : E → Expr → Bool
  | .var i, x => okVar Γ s i x
  | .con d, x => okCon G Γ d x
  | .bin o a b, x => match x with
    | .BinOp l op r _ => opB o op && okE Γ false a l && okE Γ false b r
    | _ => false
  | .neg a, x => match x with
    | .UnaryOp .USub l _ => okE Γ false a l
    | _ => false
  | .not a, x => match x with
    | .UnaryOp .Not l _ => okE Γ false a l
    | _ => false
  | .cmp o a b, x => match x with
    | .Compare l [op] [r] _ => cmB o op && noSet r && okE Γ false a l && okE Γ false b r
    | _ => false
  | .chain o1 o2 a b c, x => match x with
    | .Compare l [op1, op2] [m, r] _ => cmB o1 op1 && cmB o2 op2 && noSet m && noSet r && okE Γ false a l && okE Γ false b m && okE Γ false c r
    | _ => false
  | .and a b, x => match x with
    | .BoolOp .And [l, r] _ => okE Γ false a l && okE Γ false b r
    | .BoolOp .And (l :: r :: r2 :: rest) p => okE Γ false a l && okE Γ false b (.BoolOp .And (r :: r2 :: rest) p)
    | _ => false
  | .or a b, x => match x with
    | .BoolOp .Or [l, r] _ => okE Γ false a l && okE Γ false b r
    | .BoolOp .Or (l :: r :: r2 :: rest) p => okE Γ false a l && okE Γ false b (.BoolOp .Or (r :: r2 :: rest) p)
    | _ => false
  | .ite c a b, x => match x with
    | .IfExp t l r _ => okE Γ false c t && okE Γ s a l && okE Γ s b r
    | _ => false
  | .tup es, x => match x with
    | .Tuple xs _ _ => decide (es.len ≤ 1000) && okEs Γ true es xs
    | _ => false
  | .lst es, x => match x with
    | .List xs _ => decide (es.len ≤ 1000) && okEs Γ true es xs
    | _ => false
  | .idx a b, x => match x with
    | .Subscript l r _ => noSlice r && okE Γ false a l && okE Γ false b r
    | _ => false
  | .slLo a b, x => match x with
    | .Subscript l (.Slice (some r) none none _) _ => okE Γ false a l && okE Γ false b r
    | _ => false
  | .rev a, x => match x with
    | .Subscript l (.Slice none none (some (.UnaryOp .USub (.Constant (.int 1) _ _) _)) _) _ => okE Γ false a l
    | _ => false
  | .slHi a b, x => match x with
    | .Subscript l (.Slice none (some r) none _) _ => okE Γ false a l && okE Γ false b r
    | _ => false
  | .slBo a b c, x => match x with
    | .Subscript l (.Slice (some r) (some q) none _) _ => okE Γ false a l && okE Γ false b r && okE Γ false c q
    | _ => false
  | .call f es, x => match x with
    | .Call (.Name n _) xs [] _ => Γ.mode == 0 && glbB Γ n && (G.fns[f]? == some (n, es.len)) && okEs Γ true es xs
    | _ => false
  | .callv i es, x => match x with
    | .Call (.Name n _) (y :: xs) [] _ => Γ.mode == 0 && varB Γ i n && !Γ.own.contains i && okEs Γ true es (y :: xs)
    | _ => false
  | .bi b es, x => match x with
    | .Call (.Name n _) (y :: xs) [] _ => (!biCalm b || Γ.mode == 0) && ((biN b == some n && freeB G Γ n) || (match b with | .gcd => n == ("gcd" : Str) && glbB Γ n && G.gcd | _ => false)) && okEs Γ false es (y :: xs)
    | _ => false
  | .isi a ts, x => match x with
    | .Call (.Name n _) [l, .Name m _] [] _ => n == ("isinstance" : Str) && freeB G Γ n && noStar l && tysB G Γ ts m && okE Γ false a l
    | _ => false
  | .comp e t it, x => match x with
    | .ListComp elt [⟨tg, iter, [], 0⟩] scope _ => noSet iter && okBlk Γ t scope && okT (Γ.blk scope) t tg && okE (Γ.blk scope) true e elt && ((Γ.mode == 0 && okR Γ false it tg iter) || ((Γ.mode == 0 || Γ.mode == 1) && okE Γ false it iter))
    | _ => false
  | .compIf e t it c, x => match x with
    | .ListComp elt [⟨tg, iter, [cond], 0⟩] scope _ => noSet iter && okBlk Γ t scope && okT (Γ.blk scope) t tg && okE (Γ.blk scope) true e elt && okE (Γ.blk scope) false c cond && ((Γ.mode == 0 && okR Γ false it tg iter) || ((Γ.mode == 0 || Γ.mode == 1) && okE Γ false it iter))
    | _ => false
  | .mjoin a b, x => match x with
    | .Call (.Attribute l at_ apos) [r] [] cpos => at_ == ("join" : Str) && noStar r && (apos.endLine == cpos.line) && (match a, l with | .con (.str z), .Constant (.str z2) _ _ => z == z2 | _, _ => false) && okE Γ false b r
    | _ => false
  | .mindex a b, x => match x with
    | .Call (.Attribute (.Name l lp) at_ apos) [r] [] cpos => at_ == ("index" : Str) && noStar r && (apos.endLine == cpos.line) && okE Γ false a (.Name l lp) && okE Γ false b r
    | _ => false
  | .sset a, x => match x with
    | .Call (.Name n _) [.Call (.Name m _) [l] [] _] [] _ => n == ("sorted" : Str) && freeB G Γ n && m == ("set" : Str) && freeB G Γ m && noStar l && okE Γ false a l && Γ.mode == 0
    | _ => false
  | .chain3 o1 o2 o3 a b c d, x => match x with
    | .Compare l [op1, op2, op3] [m, r, q] _ => cmB o1 op1 && cmB o2 op2 && cmB o3 op3 && noSet q && okE Γ false a l && okE Γ false b m && okE Γ false c r && okE Γ false d q
    | _ => false
  | .rg t a b, x => match x with
    | .Call (.Name n _) [.Call (.Name m _) [l, r] [] _] [] _ => n == (if t then ("tuple" : Str) else ("list" : Str)) && freeB G Γ n && m == ("range" : Str) && freeB G Γ m && noStar l && noStar r && okE Γ false a l && okE Γ false b r && Γ.mode == 0
    | .Call (.Name n _) [.Call (.Name m _) [r] [] _] [] _ => n == (if t then ("tuple" : Str) else ("list" : Str)) && freeB G Γ n && m == ("range" : Str) && freeB G Γ m && (match a with | .con (.int 0) => true | _ => false) && noStar r && okE Γ false b r && Γ.mode == 0
    | _ => false
  | .err gi b, x => match x with
    | .Call (.Name n _) [.Lambda params body scope _] [] _ => Γ.mode == 0 && Γ.lam && glbB Γ n && G.errs[gi]? == some n && LamX.lamSB Γ.sc scope && noPar params && okE (Γ.lamSc scope) false b body
    | _ => false
  | .isx i ks, x => match x with
    | .Call (.Name n _) [.Name e _, .Name m _] [] _ => n == ("isinstance" : Str) && Γ.mode == 1 && freeB G Γ n && varB Γ i e && glbB Γ m && (List.range G.cls.length).any (fun c => G.cls[c]? == some m && G.subs[c]? == some ks)
    | _ => false
  | _, _ => false
def okEs (Γ : Sc) (s : Bool) : Es → List Expr → Bool
  | .nil, xs => xs.isEmpty
  | .cons e es, xs => match xs with
    | x :: xs => noStar x && okE Γ s e x && okEs Γ s es xs
    | [] => false
/-- a range, pairs -/
def okR (Γ : Sc) (s : Bool) : E → Expr → Expr → Bool
  | .bi b es, tg, x => match b with
    | .range => match x with
      | .Call (.Name n _) [a] [] _ => n == ("range" : Str) && freeB G Γ n && okEs Γ false es [a]
      | .Call (.Name n _) [a, b] [] _ => n == ("range" : Str) && freeB G Γ n && okEs Γ false es [a, b]
      | .Call (.Name n _) [a, b, c] [] _ => n == ("range" : Str) && freeB G Γ n && okEs Γ false es [a, b, c]
      | _ => false
    | .zip => match x with
      | .Call (.Name n _) [a, b] [] _ => n == ("zip" : Str) && freeB G Γ n && isTupX tg && okEs Γ s es [a, b]
      | _ => false
    | .enum => match x with
      | .Call (.Name n _) [a] [] _ => n == ("enumerate" : Str) && freeB G Γ n && isTupX tg && okEs Γ s es [a]
      | _ => false
    | _ => false
  | _, _, _ => false
end
end
end VI
end
section
set_option maxRecDepth 100000
namespace VI
open PySem PySem.Spec PyProof.Rows L2 L2H HotX
/-! ### what is checked holds -/
theorem passN {X : Cx} : Passes (L2N.CX X.prog X.w) X fun _ _ _ => False := fun _ _ _ _ _ _ _ h => by
  obtain ⟨_, _, _, _, _, _, _, _, _, _, _, _, z⟩ := h
  exact z.elim
structure XOk (G : Cst) (cl : Nat → List D → M D) (et : Nat → Str × (Nat → Option Str)) (ars : List Nat) (k : Nat) (Γ : Sc) (X : Cx) (S : Sg) : Prop where
  hK : X.K = S.g.K
  hN : X.N = Γ.N
  nd : X.N.Nodup
  sc : X.env.scope = Γ.sc
  kind : Γ.sc.kind = .function
  calm : Γ.mode = 0 → X.calm = true
  own : S.own = Γ.own
  fnl : ∀ x, Γ.top x = true → X.fn x = true
  fnf : ∀ i x n, G.fns[i]? = some (x, n) → X.mg x = some (.ref (S.g.fa i)) ∧ Callee X S k (cl i) n (S.g.fa i)
  con : ∀ p ∈ G.con, ∃ u v, X.mg p.1 = some u ∧ RelV v u ∧ ∀ cup bad H, Rep S.g cup bad H p.2 v
  free : ∀ x ∈ G.free, X.mg x = none
  gcd : G.gcd = true → X.mg "gcd" = some (.builtin "math.gcd")
  un : X.A.units + 65 < cLine
  room : Γ.mode = 0 → Room k X.A
  pass : Γ.mode = 0 → Passes (L2N.CX X.prog X.w) X S.EX
  hot : Γ.mode = 1 → HotC X ∧ ∃ k0 a0, S.g.ex = some (k0, a0) ∧ CallR X (.builtin "isinstance") (rIsE X.K (S.g.ca k0) a0) ∧ k0 < G.cls.length
  hotk : Γ.mode = 2 → HotK X
  mode : Γ.mode ≤ 2
  lamx : Γ.lam = true → Room (k + 2) X.A ∧ ∃ c P, X.env.code = .ref c ∧ LamX.TabB X.base X.mg c P ∧ (P, X.env.qual ++ "<lambda>") ∈ S.T ∧ ∀ p ∈ S.T, p.1 = P → p.2 = X.env.qual ++ "<lambda>"
  errF : Γ.lam = true → ∀ gi n, G.errs[gi]? = some n → ∃ (t : ErrT) (ge : Addr) (pg : Arguments) (bg : List Stmt) (sg : Scope) (dV kV doc pm cdv ct oc : Value) (an od : Option Addr) (osl : Array (Option Value)) (Ng : List Str) (a : Str) (m : Nat),
    X.mg n = some (.ref ge) ∧ PySem.W.keepIn X.K (.ref ge) = true ∧ X.K.lookup ge = some ⟨oc, od, .func (PySem.W.fnOf n n pg bg sg dV kV doc pm an cdv ct), osl⟩ ∧ PySem.W.codeIn X.K cdv n = true ∧ L2.Binds X.K (PySem.W.fnOf n n pg bg sg dV kV doc pm an cdv ct) [a] [] ∧
    FnScope Ng [a] sg ∧ Ng[0]? = some a ∧ Vis sg a ∧ (a == ("__debug__" : Str)) = false ∧ (a == ("__classdict__" : Str)) = false ∧ (∀ q, GivesN X Ng n sg ge cdv bg a q (TTe S.g S.T m Ng ars t)) ∧ et gi = (t.none, fun k => if k < m then t.run ars k else none) ∧ t.es < t.slots ∧ Ng.length = t.slots
  clsM : ∀ c n, G.cls[c]? = some n → X.mg n = some (.ref (S.g.ca c))
  subs : ∀ c ks k0, c < G.cls.length → G.subs[c]? = some ks → k0 < G.cls.length → PySem.W.kitOne X.K (.ref (S.g.ca k0)) (.ref (S.g.ca c)) = some (ks.contains k0)
theorem XOk.units {G : Cst} {cl : Nat → List D → M D} {et : Nat → Str × (Nat → Option Str)} {ars : List Nat} {k : Nat} {Γ : Sc} {X : Cx} {S : Sg} (o : XOk G cl et ars k Γ X S) : X.A.units + 65 < cLine := by
  exact o.un
theorem and2 {a b : Bool} (h : (a && b) = true) : a = true ∧ b = true := by rwa [Bool.and_eq_true] at h
theorem not1 {a : Bool} (h : (!a) = true) : a = false := by cases a <;> first | rfl | cases h
theorem starEach_cons {e : Expr} {es : List Expr} {env : PySem.Env} (h : noStar e = true) : starEach (e :: es) env = (false, eval e env) :: starEach es env := by
  cases e <;> first | rfl | cases h
theorem assignEach_cons {e : Expr} {es : List Expr} {env : PySem.Env} (h : noStar e = true) : assignEach (e :: es) env = (false, assign e env) :: assignEach es env := by
  cases e <;> first | rfl | cases h
def noStars : List Expr → Bool
  | [] => true
  | e :: es => noStar e && noStars es
theorem backTo_plain {pos : Pos} {env : PySem.Env} : ∀ {es : List Expr}, noStars es = true → (backTo pos (starEach es env)).any (·.1) = false
  | [], _ => rfl
  | e :: es, h => by
    obtain ⟨h1, h2⟩ := and2 h
    rw [starEach_cons h1]
    have ih := backTo_plain (pos := pos) (env := env) h2
    exact ih
theorem plainIx {b : Expr} (h : noSlice b = true) : PlainIx b := fun o i => by
  cases b <;> first | rfl | cases h
theorem behind_none {o : CmpOp} {b : Expr} (h : noSet b = true) : behindInMarks o b = false := by
  cases b <;> first | rfl | cases h
theorem folded_none {e : Expr} {env : PySem.Env} (h : noSet e = true) : ∀ x, foldedSetIterable e env x = pure x := by
  intro x
  cases e <;> first | rfl | cases h
section
variable {G : Cst} {cl : Nat → List D → M D} {et : Nat → Str × (Nat → Option Str)} {ars : List Nat} {k : Nat} {Γ : Sc} {X : Cx} {S : Sg}
theorem nod {x : Str} (h : nodB x = true) : (x == ("__debug__" : Str)) = false ∧ (x == ("__classdict__" : Str)) = false ∧ x ≠ "__name__" := by
  obtain ⟨h12, h3⟩ := and2 h
  obtain ⟨h1, h2⟩ := and2 h12
  refine ⟨not1 h1, not1 h2, fun z => ?_⟩
  have := not1 h3
  rw [z] at this
  rw [beq_self_eq_true] at this
  cases this
theorem vis_ok {sc : Scope} {x : Str} (h : visB sc x = true) : Vis sc x := by
  unfold visB at h
  unfold Vis
  cases e : sc.names.lookup x with
  | none => rw [e] at h; cases h
  | some q =>
    rw [e] at h
    cases q with
    | «local» => exact .inl rfl
    | cell => exact .inr (.inl rfl)
    | free => exact .inr (.inr rfl)
    | globalExplicit => cases h
    | globalImplicit => cases h
theorem var_ok {i : Nat} {x : Str} (o : XOk G cl et ars k Γ X S) (h : varB Γ i x = true) : X.N[i]? = some x ∧ Vis X.env.scope x ∧ (x == ("__debug__" : Str)) = false ∧ (x == ("__classdict__" : Str)) = false := by
  obtain ⟨h12, h3⟩ := and2 h
  obtain ⟨h1, h2⟩ := and2 h12
  refine ⟨by rw [o.hN]; exact eq_of_beq h1, by rw [o.sc]; exact vis_ok h2, (nod h3).1, (nod h3).2.1⟩
theorem own_ok {i : Nat} (o : XOk G cl et ars k Γ X S) (h : (!Γ.own.contains i) = true) : i ∉ S.own := by
  rw [o.own]
  intro z
  have := not1 h
  rw [List.contains_iff_mem.mpr z] at this
  cases this
theorem glb_ok {x : Str} (o : XOk G cl et ars k Γ X S) (h : glbB Γ x = true) : Gl X x ∧ (x == ("__debug__" : Str)) = false ∧ x ≠ "__name__" := by
  obtain ⟨h1, h2⟩ := and2 h
  refine ⟨?_, (nod h2).1, (nod h2).2.2⟩
  have h1 : Γ.sc.names.lookup x = some .globalImplicit := eq_of_beq h1
  show X.env.scope.names.lookup x = some .globalImplicit
  rw [o.sc]; exact h1
theorem free_ok {x : Str} (o : XOk G cl et ars k Γ X S) (h : freeB G Γ x = true) : Gl X x ∧ X.mg x = none ∧ (x == ("__debug__" : Str)) = false ∧ x ≠ "__name__" := by
  obtain ⟨h1, h2⟩ := and2 h
  obtain ⟨a, b, c⟩ := glb_ok o h1
  exact ⟨a, o.free x (List.contains_iff_mem.mp h2), b, c⟩
theorem se_vals {s : Bool} {x : Expr} {v : V} {d : D} (h : PE X x (tC v)) (hr : ∀ cup bad H, Rep S.g cup bad H d v) : PE X x (tE S s fun _ => M.pure d) :=
  PE.weak h fun σ H Q ⟨c, w, a, R, q⟩ => q.pure R (Fr.rep.s (d := d) R (hr _ _ _) s)
theorem con_ok {s : Bool} {d : D} {x : Expr} (o : XOk G cl et ars k Γ X S) (h : okCon G Γ d x = true) : PE X x (tE S s fun _ => M.pure d) := by
  unfold okCon at h
  split at h
  · split at h
    · exact se_con pe_non rfl
    · cases eq_of_beq h; exact se_con pe_bl rfl
    · cases eq_of_beq h; exact se_con pe_int rfl
    · cases eq_of_beq h; exact se_con pe_str rfl
    · cases h
  · rename_i x pos
    obtain ⟨h1, h2⟩ := and2 h
    obtain ⟨g1, g2, g3⟩ := glb_ok o h1
    have rest : (G.con.any fun p => p.1 == x && beqD p.2 d) = true → PE X (.Name x pos) (tE S s fun _ => M.pure d) := fun h2 => by
      obtain ⟨p, hp, e⟩ := List.any_eq_true.mp h2
      obtain ⟨e1, e2⟩ := and2 e
      obtain ⟨u, v, m1, m2, m3⟩ := o.con p hp
      rw [eq_of_beq e1] at m1
      rw [beqD_eq e2] at m3
      exact se_vals (pe_glob (pos := pos) g1 m1 m2 g2) m3
    split at h2
    · rename_i kk
      have h2 : (G.fns[kk]?).map (·.1) = some x := eq_of_beq h2
      obtain ⟨p, e1, e2⟩ := Option.map_eq_some_iff.mp h2
      obtain ⟨m1, _⟩ := o.fnf kk p.1 p.2 e1
      rw [e2] at m1
      exact se_vals (d := .fn kk) (pe_glob (pos := pos) (v := .ref (S.g.fa kk)) g1 m1 rfl g2) fun cup bad H => rfl
    · exact rest h2
  · cases h
/-- as a value and as a test -/
def Both (X : Cx) (S : Sg) (s : Bool) (x : Expr) (f : Env → M D) : Prop := PE X x (tE S s f) ∧ PT X x (tT S (tst f))
theorem weakS {s : Bool} {x : Expr} {f : Env → M D} (h : PE X x (tE S s f)) : PE X x (tE S false f) := by
  cases s with
  | true => exact se_weak h
  | false => exact h
theorem both_of {s : Bool} {x : Expr} {f : Env → M D} (h : PE X x (tE S s f)) (hi : ∀ env whole, isTrue x env whole = (do let v ← whole; standAt x.pos; holding [v] (truthy v))) : Both X S s x f := ⟨h, st_val (weakS h) fun w => hi _ w⟩
theorem pw_of_and {es : List Expr} {pos : Pos} {t : TT} (h : PT X (.BoolOp .And es pos) t) : PW X (.BoolOp .And es pos) t := ⟨fun _ => h.run⟩
theorem pw_of_or {es : List Expr} {pos : Pos} {t : TT} (h : PT X (.BoolOp .Or es pos) t) : PW X (.BoolOp .Or es pos) t := ⟨fun _ => h.run⟩
theorem blk_mode {scope : Scope} (h : (Γ.blk scope).mode = 0) : Γ.mode = 0 := by
  have h : (if Γ.mode = 0 then 0 else 2) = 0 := h
  split at h
  · assumption
  · omega
theorem sc_blk (o : XOk G cl et ars k Γ X S) (scope : Scope) (hk : scope.kind = .function) (s : Shared) (H : Hp) (C : Addr) (cells : List (Str × Addr)) (fp : List Addr) (hm : Γ.mode = 0 ∨ HotK (X.blk s H scope (compEnvC scope cells C X.env) fp)) :
    XOk G cl et ars k (Γ.blk scope) (X.blk s H scope (compEnvC scope cells C X.env) fp) S.in where
  hK := o.hK
  hN := o.hN
  nd := o.nd
  sc := by
    show relS scope X.env.scope = relS scope Γ.sc
    rw [o.sc]
  kind := hk
  calm := fun h => o.calm (blk_mode h)
  own := o.own
  fnl := fun _ h => h
  fnf := fun i x n h => ⟨(o.fnf i x n h).1, ⟨(o.fnf i x n h).2.ex⟩⟩
  con := o.con
  free := o.free
  gcd := o.gcd
  un := o.un
  room := fun h => o.room (blk_mode h)
  pass := fun _ => passN
  hot := fun h => by
    have h : (if Γ.mode = 0 then 0 else 2) = 1 := h
    split at h <;> omega
  hotk := fun h => hm.resolve_left fun z => by
    have h : (if Γ.mode = 0 then 0 else 2) = 2 := h
    rw [if_pos z] at h
    omega
  mode := by
    show (if Γ.mode = 0 then 0 else 2) ≤ 2
    split <;> omega
  lamx := o.lamx
  errF := o.errF
  clsM := o.clsM
  subs := o.subs
theorem sc_lam (o : XOk G cl et ars k Γ X S) (scope : Scope) (L : LamX.LamS X.env.scope scope) (h0 : Γ.mode = 0) (A : Around) (outer : List PySem.Env) (z : Shared) (M : Hp) (E : XK) (f c' : Addr) (hr : Room k (A.deeper (LamX.lamEnv X scope z.heap.objs.size f c'))) :
    XOk G cl et ars k (Γ.lamSc scope) (lamN X A outer z M E scope f c') { S with EX := E } where
  hK := o.hK
  hN := o.hN
  nd := o.nd
  sc := rfl
  kind := L.kind
  calm := fun _ => rfl
  own := o.own
  fnl := fun _ h => by cases h
  fnf := fun i x n h => ⟨(o.fnf i x n h).1, ⟨(o.fnf i x n h).2.ex⟩⟩
  con := o.con
  free := o.free
  gcd := o.gcd
  un := by
    have := hr.un
    show (A.deeper (LamX.lamEnv X scope z.heap.objs.size f c')).units + 65 < cLine
    omega
  room := fun _ => hr
  pass := fun _ => L2N.passes_call (L2N.takes_of (X := lamN X A outer z M E scope f c') rfl rfl rfl rfl) fun _ _ _ _ h => h
  hot := fun h => by
    have h : Γ.mode = 1 := h
    omega
  hotk := fun h => by
    have h : Γ.mode = 2 := h
    omega
  mode := o.mode
  lamx := fun h => by cases h
  errF := fun h => by cases h
  clsM := o.clsM
  subs := o.subs
theorem blk_ok {t : T} {scope : Scope} (o : XOk G cl et ars k Γ X S) (h : okBlk Γ t scope = true) : BlkOk X.N X.env.scope scope (ownOf Γ t.slots) ∧ (ownOf Γ t.slots).map (·.2) = t.slots ∧ (∀ i ∈ t.slots, i ∉ S.own) ∧ scope.kind = .function := by
  obtain ⟨h1, h2⟩ := and2 h
  unfold blkB at h1
  obtain ⟨h1, b5⟩ := and2 h1
  obtain ⟨h1, b4⟩ := and2 h1
  obtain ⟨h1, b3⟩ := and2 h1
  obtain ⟨b1, b2⟩ := and2 h1
  have b1 : scope.kind = .function := eq_of_beq b1
  refine ⟨⟨b1, fun y hy => eq_of_beq (List.all_eq_true.mp b2 y hy), fun p hp => by rw [o.hN]; exact eq_of_beq (List.all_eq_true.mp b3 p hp), fun y hy e => ?_, fun y hy e => ?_⟩, ?_, fun i hi => own_ok o (List.all_eq_true.mp h2 i hi), b1⟩
  · have := List.all_eq_true.mp b4 y hy
    rw [Bool.or_eq_true, Bool.or_eq_true] at this
    rw [o.sc]
    rcases this with z | z | z
    · rw [e] at z; cases z
    · exact .inl (eq_of_beq z)
    · exact .inr (eq_of_beq z)
  · have := List.all_eq_true.mp b5 y hy
    rw [Bool.or_eq_true, Bool.or_eq_true] at this
    rw [o.hN]
    rcases this with z | z | z
    · rcases e with e | e <;> rw [e] at z <;> cases z
    · exact .inl (List.contains_iff_mem.mp z)
    · refine .inr fun m => ?_
      have z := not1 z
      rw [List.contains_iff_mem.mpr m] at z
      cases z
  · unfold ownOf
    rw [List.map_map]
    exact List.map_id _
mutual
theorem okT_ok (o : XOk G cl et ars k Γ X S) : ∀ {t : T} {x : Expr}, okT Γ t x = true → PG X x (readT S.g.K t) ∧ (∀ i ∈ t.slots, i ∉ S.own)
  | .nm i, x, h => by
    unfold okT at h
    split at h
    · rename_i n _
      obtain ⟨h12, h3⟩ := and2 h
      obtain ⟨h1, h2⟩ := and2 h12
      have hN : X.N[i]? = some n := by rw [o.hN]; exact eq_of_beq h1
      refine ⟨?_, fun j hj => by
        have : j = i := by simpa [T.slots] using hj
        rw [this]; exact own_ok o h3⟩
      rw [Bool.or_eq_true] at h2
      rcases h2 with z | z
      · have z : X.env.scope.names.lookup n = some .local := by rw [o.sc]; exact eq_of_beq z
        exact pg_name o.nd hN (.inl z) (.inr z)
      · obtain ⟨z1, z2⟩ := and2 z
        have z2 : X.env.scope.names.lookup n = some .cell := by rw [o.sc]; exact eq_of_beq z2
        exact pg_name o.nd hN (.inr z2) (.inl (o.fnl n z1))
    · cases h
  | .tp ts, x, h => by
    unfold okT at h
    split at h
    · rename_i xs kk ps
      obtain ⟨h1, h2, h3, h4⟩ := okTs_ok o h
      refine ⟨?_, fun j hj => h2 j (by simpa [T.slots] using hj)⟩
      have : PG X (.Tuple xs kk ps) (gTup X.K ts.len (readTs S.g.K ts)) := by
        have hm := o.mode
        by_cases z0 : Γ.mode = 0
        · exact pg_tup (X := X) (k := kk) (pos := ps) (o.calm z0) h1 h3 h4
        · by_cases z1 : Γ.mode = 1
          · exact pg_tupK (hotK_of (o.hot z1).1) h1 h3 h4
          · exact pg_tupK (o.hotk (by omega)) h1 h3 h4
      rw [o.hK] at this
      exact this
    · cases h
theorem okTs_ok (o : XOk G cl et ars k Γ X S) : ∀ {ts : Ts} {xs : List Expr}, okTs Γ ts xs = true → PGs X xs (readTs S.g.K ts) ∧ (∀ i ∈ ts.slots, i ∉ S.own) ∧ (assignEach xs X.env).length = ts.len ∧ (assignEach xs X.env).findIdx? (·.1) = none
  | .nil, xs, h => by
    cases xs with
    | nil => exact ⟨pgs_nil, fun j hj => (by simp [Ts.slots] at hj), rfl, rfl⟩
    | cons _ _ => cases h
  | .cons t ts, xs, h => by
    cases xs with
    | nil => cases h
    | cons x xs =>
      obtain ⟨h12, h3⟩ := and2 (show (noStar x && okT Γ t x && okTs Γ ts xs) = true from h)
      obtain ⟨h1, h2⟩ := and2 h12
      obtain ⟨a1, a2⟩ := okT_ok o h2
      obtain ⟨b1, b2, b3, b4⟩ := okTs_ok o h3
      refine ⟨pgs_cons a1 b1 (by rw [assignEach_cons h1]; rfl), fun j hj => ?_, ?_, ?_⟩
      · rcases List.mem_append.mp (show j ∈ t.slots ++ ts.slots from hj) with z | z
        · exact a2 j z
        · exact b2 j z
      · rw [assignEach_cons h1]
        show (assignEach xs X.env).length + 1 = ts.len + 1
        rw [b3]
      · rw [assignEach_cons h1, List.findIdx?_cons]
        simp [b4]
end
end
end VI
end
section
set_option maxRecDepth 100000
set_option maxHeartbeats 1000000
namespace VI
open PySem PySem.Spec PyProof.Rows L2 L2H HotX
section
variable {G : Cst} {cl : Nat → List D → M D} {et : Nat → Str × (Nat → Option Str)} {ars : List Nat} {k : Nat}
theorem bi_one {Γ : Sc} {X : Cx} {S : Sg} {s : Bool} {b : Bi} {n : Str} {y : Expr} {xs : List Expr} {p pos : Pos} {fs : Env → M (List D)} (o : XOk G cl et ars k Γ X S) (h : ((biN b == some n && freeB G Γ n) || (match b with | .gcd => n == ("gcd" : Str) && glbB Γ n && G.gcd | _ => false)) = true)
    (hcm : (!biCalm b || Γ.mode == 0) = true) (hp : PA X (y :: xs) (tEs S false fs)) (hst : noStars (y :: xs) = true) : PE X (.Call (.Name n p) (y :: xs) [] pos) (tE S s fun env => M.bind (fs env) fun xs => liftO (biD b xs)) := by
  obtain ⟨st1, st2⟩ := and2 (show (noStar y && noStars xs) = true from hst)
  have he := starEach_cons (es := xs) (env := X.env) st1
  have hpl := backTo_plain (pos := pos) (env := X.env) st2
  have cm : biCalm b = true → X.calm = true := fun z => o.calm (by
    rw [z] at hcm
    exact eq_of_beq hcm)
  rw [Bool.or_eq_true] at h
  rcases h with h | h
  · obtain ⟨h1, h2⟩ := and2 h
    obtain ⟨f1, f2, f3, f4⟩ := free_ok o h2
    have h1 : biN b = some n := eq_of_beq h1
    cases b with
    | len => cases h1; exact se_bi (bi_len o.hK) f1 f2 rfl hp f4 f3 he hpl
    | abs => cases h1; exact se_bi bi_abs f1 f2 rfl hp f4 f3 he hpl
    | max => cases h1; exact se_bi (bi_max o.hK (cm rfl)) f1 f2 rfl hp f4 f3 he hpl
    | min => cases h1; exact se_bi (bi_min o.hK (cm rfl)) f1 f2 rfl hp f4 f3 he hpl
    | sum =>
      cases h1
      refine PE.weak (pe_callB (bi_sumL (S := S) (s := s) o.hK (cm rfl)) f1 f2 rfl hp f4 f3 he hpl) fun σ H Q ⟨c, w, at_, R, q⟩ => tEs_mono (oneA at_ R q) fun xs H1 ⟨w1, ds, R1, k1, h1, q1, e1⟩ => ?_
      obtain ⟨dz, e2, q2⟩ := q1.lift
      unfold biD at e2
      split at e2 <;> first | contradiction | skip
      · obtain ⟨x', rfl, hx⟩ := reps1 h1
        obtain ⟨a, vs, rfl, h3, h4⟩ := repS_lst hx
        obtain ⟨ns, e3, rfl⟩ := Option.map_eq_some_iff.mp e2
        exact ⟨c, w1, a, ns, vs, R1, rfl, .inl h3, reps_ints h4 e3, q2⟩
      · obtain ⟨x', rfl, hx⟩ := reps1 h1
        obtain ⟨a, vs, rfl, h3, h4⟩ := repS_tup hx
        obtain ⟨ns, e3, rfl⟩ := Option.map_eq_some_iff.mp e2
        exact ⟨c, w1, a, ns, vs, R1, rfl, .inr h3.sq, reps_ints h4 e3, q2⟩
    | sorted => cases h1; exact se_bi bi_sorted f1 f2 rfl hp f4 f3 he hpl
    | list => cases h1; exact se_biTy (bi_list o.hK) f1 f2 rfl hp f4 f3 he hpl
    | tuple => cases h1; exact se_biTy (bi_tuple o.hK) f1 f2 rfl hp f4 f3 he hpl
    | all => cases h1; exact se_bi (bi_all (cm rfl)) f1 f2 rfl hp f4 f3 he hpl
    | any => cases h1; exact se_bi (bi_any (cm rfl)) f1 f2 rfl hp f4 f3 he hpl
    | int => cases h1; exact se_biTy bi_int f1 f2 rfl hp f4 f3 he hpl
    | _ => cases h1
  · cases b with
    | gcd =>
      obtain ⟨h12, h3⟩ := and2 h
      obtain ⟨h1, h2⟩ := and2 h12
      obtain ⟨g1, g2, g3⟩ := glb_ok o h2
      have h1 := eq_of_beq h1
      subst h1
      exact se_biFun bi_gcd g1 (o.gcd h3) hp g2 he hpl
    | _ => cases h
theorem tys_ok {Γ : Sc} {m : Str} : ∀ {ts : List Ty}, tysB G Γ ts m = true → ∃ t, ts = [t] ∧ m = tyS t ∧ freeB G Γ m = true
  | [t], h => by
    obtain ⟨h1, h2⟩ := and2 h
    exact ⟨t, rfl, eq_of_beq h1, h2⟩
  | [], h => by cases h
  | _ :: _ :: _, h => by cases h
theorem starEach_all {env : PySem.Env} : ∀ {es : List Expr}, noStars es = true → starEach es env = es.map fun e => (false, eval e env)
  | [], _ => rfl
  | e :: es, h => by
    obtain ⟨h1, h2⟩ := and2 (show (noStar e && noStars es) = true from h)
    rw [starEach_cons h1, starEach_all h2]
    rfl
theorem okEs_len {Γ : Sc} {s : Bool} : ∀ (es : Es) {xs : List Expr}, okEs G Γ s es xs = true → es.len = xs.length
  | .nil, xs, h => by
    cases xs with
    | nil => rfl
    | cons _ _ => cases h
  | .cons e es, xs, h => by
    cases xs with
    | nil => cases h
    | cons x xs =>
      obtain ⟨h12, h3⟩ := and2 (show (noStar x && okE G Γ s e x && okEs G Γ s es xs) = true from h)
      show es.len + 1 = xs.length + 1
      rw [okEs_len es h3]
mutual
theorem okE_ok : ∀ (e : E) {Γ : Sc} {X : Cx} {S : Sg} {s : Bool} {x : Expr}, XOk G cl et ars k Γ X S → (∀ i : Nat, ars[i]? = (G.fns[i]?).map fun p : Str × Nat => p.2) → okE G Γ s e x = true → Both X S s x (evalE cl et ars e)
  | .var i, Γ, X, S, s, x, o, har, h => by
    have h : okVar Γ s i x = true := h
    unfold okVar at h
    split at h
    · rename_i n pos
      obtain ⟨h1, h2⟩ := and2 h
      obtain ⟨v1, v2, v3, v4⟩ := var_ok o h1
      refine both_of (se_var v1 v2 v3 v4 fun hs => ?_) fun _ _ => rfl
      subst hs
      rw [Bool.or_eq_true] at h2
      exact own_ok o (h2.resolve_left fun z => by cases z)
    · cases h
  | .con d, Γ, X, S, s, x, o, har, h => by
    have h : okCon G Γ d x = true := h
    have r : PE X x (tE S s fun _ => M.pure d) := con_ok o h
    unfold okCon at h
    split at h
    · exact both_of r fun _ _ => rfl
    · exact both_of r fun _ _ => rfl
    · cases h
  | .bin ob a b, Γ, X, S, s, x, o, har, h => by
    unfold okE at h
    split at h
    · obtain ⟨h12, h3⟩ := and2 h
      obtain ⟨h1, h2⟩ := and2 h12
      rw [opB_eq h1]
      exact both_of (se_bin o.hK (okE_ok a o har h2).1 (okE_ok b o har h3).1) fun _ _ => rfl
    · cases h
  | .neg a, Γ, X, S, s, x, o, har, h => by
    unfold okE at h
    split at h
    · exact both_of (se_neg (okE_ok a o har h).1) fun _ _ => rfl
    · cases h
  | .not a, Γ, X, S, s, x, o, har, h => by
    unfold okE at h
    split at h
    · exact ⟨se_not (okE_ok a o har h).1, st_not (okE_ok a o har h).2⟩
    · cases h
  | .cmp ob a b, Γ, X, S, s, x, o, har, h => by
    unfold okE at h
    split at h
    · obtain ⟨h123, h4⟩ := and2 h
      obtain ⟨h12, h3⟩ := and2 h123
      obtain ⟨h1, h2⟩ := and2 h12
      rw [cmB_eq h1]
      exact ⟨se_cmp o.hK o.units (okE_ok a o har h3).1 (okE_ok b o har h4).1 (behind_none h2), st_cmp o.hK o.units (okE_ok a o har h3).1 (okE_ok b o har h4).1 (behind_none h2)⟩
    · cases h
  | .chain o1 o2 a b c, Γ, X, S, s, x, o, har, h => by
    unfold okE at h
    split at h
    · obtain ⟨h, h7⟩ := and2 h
      obtain ⟨h, h6⟩ := and2 h
      obtain ⟨h, h5⟩ := and2 h
      obtain ⟨h, h4⟩ := and2 h
      obtain ⟨h, h3⟩ := and2 h
      obtain ⟨h1, h2⟩ := and2 h
      rw [cmB_eq h1, cmB_eq h2]
      exact ⟨se_chain o.hK o.units (okE_ok a o har h5).1 (okE_ok b o har h6).1 (okE_ok c o har h7).1 (behind_none h4), st_chain o.hK o.units (okE_ok a o har h5).1 (okE_ok b o har h6).1 (okE_ok c o har h7).1 (behind_none h4)⟩
    · cases h
  | .and a b, Γ, X, S, s, x, o, har, h => by
    unfold okE at h
    split at h
    · obtain ⟨h1, h2⟩ := and2 h
      exact ⟨se_and (okE_ok a o har h1).1 (pe_one (okE_ok b o har h2).1), (sw_and (okE_ok a o har h1).2 (pw_and1 (okE_ok b o har h2).2)).pt⟩
    · obtain ⟨h1, h2⟩ := and2 h
      exact ⟨se_and (okE_ok a o har h1).1 (okE_ok b o har h2).1, (sw_and (okE_ok a o har h1).2 (pw_of_and (okE_ok b o har h2).2)).pt⟩
    · cases h
  | .or a b, Γ, X, S, s, x, o, har, h => by
    unfold okE at h
    split at h
    · obtain ⟨h1, h2⟩ := and2 h
      exact ⟨se_or (okE_ok a o har h1).1 (pe_one (okE_ok b o har h2).1), (sw_or (okE_ok a o har h1).2 (pw_or1 (okE_ok b o har h2).2)).pt⟩
    · obtain ⟨h1, h2⟩ := and2 h
      exact ⟨se_or (okE_ok a o har h1).1 (okE_ok b o har h2).1, (sw_or (okE_ok a o har h1).2 (pw_of_or (okE_ok b o har h2).2)).pt⟩
    · cases h
  | .ite c a b, Γ, X, S, s, x, o, har, h => by
    unfold okE at h
    split at h
    · obtain ⟨h12, h3⟩ := and2 h
      obtain ⟨h1, h2⟩ := and2 h12
      exact ⟨se_ite (okE_ok c o har h1).2 (okE_ok a o har h2).1 (okE_ok b o har h3).1, st_ite (okE_ok c o har h1).2 (okE_ok a o har h2).2 (okE_ok b o har h3).2 fun _ => rfl⟩
    · cases h
  | .tup es, Γ, X, S, s, x, o, har, h => by
    unfold okE at h
    split at h
    · obtain ⟨h1, h2⟩ := and2 h
      obtain ⟨p1, p2, _⟩ := okEs_ok es o har h2
      exact both_of (se_tup p1 p2 (of_decide_eq_true h1)) fun _ _ => rfl
    · cases h
  | .lst es, Γ, X, S, s, x, o, har, h => by
    unfold okE at h
    split at h
    · obtain ⟨h1, h2⟩ := and2 h
      obtain ⟨p1, p2, _⟩ := okEs_ok es o har h2
      exact both_of (se_lst p1 p2 (of_decide_eq_true h1)) fun _ _ => rfl
    · cases h
  | .idx a b, Γ, X, S, s, x, o, har, h => by
    unfold okE at h
    split at h
    · obtain ⟨h12, h3⟩ := and2 h
      obtain ⟨h1, h2⟩ := and2 h12
      exact both_of (se_idx o.hK (okE_ok a o har h2).1 (okE_ok b o har h3).1 (plainIx h1)) fun _ _ => rfl
    · cases h
  | .slLo a b, Γ, X, S, s, x, o, har, h => by
    unfold okE at h
    split at h
    · obtain ⟨h1, h2⟩ := and2 h
      exact both_of (se_slLo o.hK (okE_ok a o har h1).1 (okE_ok b o har h2).1) fun _ _ => rfl
    · cases h
  | .slHi a b, Γ, X, S, s, x, o, har, h => by
    unfold okE at h
    split at h
    · obtain ⟨h1, h2⟩ := and2 h
      exact both_of (se_slHi o.hK (okE_ok a o har h1).1 (okE_ok b o har h2).1) fun _ _ => rfl
    · cases h
  | .slBo a b c, Γ, X, S, s, x, o, har, h => by
    unfold okE at h
    split at h
    · obtain ⟨h12, h3⟩ := and2 h
      obtain ⟨h1, h2⟩ := and2 h12
      exact both_of (se_slBo o.hK (okE_ok a o har h1).1 (okE_ok b o har h2).1 (okE_ok c o har h3).1) fun _ _ => rfl
    · cases h
  | .call f es, Γ, X, S, s, x, o, har, h => by
    unfold okE at h
    split at h
    · rename_i n p xs pos
      obtain ⟨h12, h3⟩ := and2 h
      obtain ⟨h01, h2⟩ := and2 h12
      obtain ⟨h0, h1⟩ := and2 h01
      have h0 : Γ.mode = 0 := eq_of_beq h0
      obtain ⟨p1, p2, p3⟩ := okEs_ok es o har h3
      obtain ⟨g1, g2, g3⟩ := glb_ok o h1
      obtain ⟨m, F⟩ := o.fnf f n es.len (eq_of_beq h2)
      cases xs with
      | nil =>
        cases es with
        | nil => exact both_of (se_call0 F (o.room h0) g1 m (o.pass h0) g2) fun _ _ => rfl
        | cons _ _ => cases h3
      | cons y xs =>
        obtain ⟨st1, st2⟩ := and2 (show (noStar y && noStars xs) = true from p3)
        exact both_of (se_call F (o.room h0) g1 m (o.pass h0) p1 p2 g2 (starEach_cons st1) (backTo_plain st2)) fun _ _ => rfl
    · cases h
  | .callv i es, Γ, X, S, s, x, o, har, h => by
    unfold okE at h
    split at h
    · rename_i n p y xs pos
      obtain ⟨h12, h3⟩ := and2 h
      obtain ⟨h01, h2⟩ := and2 h12
      obtain ⟨h0, h1⟩ := and2 h01
      have h0 : Γ.mode = 0 := eq_of_beq h0
      obtain ⟨p1, p2, p3⟩ := okEs_ok es o har h3
      obtain ⟨v1, v2, v3, v4⟩ := var_ok o h1
      obtain ⟨st1, st2⟩ := and2 (show (noStar y && noStars xs) = true from p3)
      refine both_of (se_callv (cl := cl) (ars := ars) (n := es.len) (fun f hf => ?_) (o.room h0) v1 v2 (o.pass h0) p1 p2 (own_ok o h2) v3 v4 (starEach_cons st1) (backTo_plain st2)) fun _ _ => rfl
      rw [har f] at hf
      obtain ⟨q, e1, e2⟩ := Option.map_eq_some_iff.mp hf
      have F := (o.fnf f q.1 q.2 e1).2
      rw [e2] at F
      exact F
    · cases h
  | .bi b es, Γ, X, S, s, x, o, har, h => by
    unfold okE at h
    split at h
    · rename_i n p y xs pos
      obtain ⟨h01, h2⟩ := and2 h
      obtain ⟨h0, h1⟩ := and2 h01
      obtain ⟨p1, p2, p3⟩ := okEs_ok es o har h2
      exact both_of (bi_one o h1 h0 p1 p3) fun _ _ => rfl
    · cases h
  | .isi a ts, Γ, X, S, s, x, o, har, h => by
    unfold okE at h
    split at h
    · rename_i n p l m p2 pos
      obtain ⟨h, h5⟩ := and2 h
      obtain ⟨h, h4⟩ := and2 h
      obtain ⟨h, h3⟩ := and2 h
      obtain ⟨h1, h2⟩ := and2 h
      obtain ⟨f1, f2, f3, f4⟩ := free_ok o h2
      have h1 := eq_of_beq h1
      subst h1
      obtain ⟨t, rfl, rfl, t2⟩ := tys_ok h4
      obtain ⟨u1, u2, u3, u4⟩ := free_ok o t2
      exact both_of (se_isi (t := t) o.hK f1 f2 u1 u2 (by cases t <;> rfl) u4 u3 (okE_ok a o har h5).1 (starEach_cons h3)) fun _ _ => rfl
    · cases h
  | .comp e t it, Γ, X, S, s, x, o, har, h => by
    unfold okE at h
    split at h
    · rename_i elt tg iter scope pos
      obtain ⟨h, h5⟩ := and2 h
      obtain ⟨h, h4⟩ := and2 h
      obtain ⟨h, h3⟩ := and2 h
      obtain ⟨h1, h2⟩ := and2 h
      obtain ⟨b1, b2, b3, b4⟩ := blk_ok o h2
      refine both_of (x := .ListComp elt [⟨tg, iter, [], 0⟩] scope pos) ?_ fun _ _ => rfl
      have r : PE X (.ListComp elt [⟨tg, iter, [], 0⟩] scope pos) (tE S s (eComp (fun env => M.bind (evalE cl et ars it env) walkD) t (evalE cl et ars e))) := by
        by_cases z : Γ.mode = 0
        · have hi : PI X tg iter (tI S false fun env => M.bind (evalE cl et ars it env) walkD) := by
            rw [Bool.or_eq_true] at h5
            rcases h5 with h5 | h5
            · exact okR_ok it o har (and2 h5).2
            · exact si_seq o.hK (okE_ok it o har (and2 h5).2).1
          exact se_comp (s := s) (pos := pos) (fe := evalE cl et ars e) (o.calm z) o.nd o.hK hi b1 b2 b3 (fun s H C cells fp => (okT_ok (sc_blk o scope b4 s H C cells fp (.inl z)) h3).1) (fun s H C cells fp => (okE_ok e (sc_blk o scope b4 s H C cells fp (.inl z)) har h4).1) (folded_none h1)
        · rw [Bool.or_eq_true] at h5
          rcases h5 with h5 | h5
          · exact absurd (eq_of_beq (and2 h5).1) z
          · obtain ⟨m1, m2⟩ := and2 h5
            rw [Bool.or_eq_true] at m1
            have z1 : Γ.mode = 1 := eq_of_beq (m1.resolve_left fun q => z (eq_of_beq q))
            exact se_compK (s := s) (pos := pos) (fe := evalE cl et ars e) (o.hot z1).1 o.nd o.hK (sik_seq o.hK (okE_ok it o har m2).1) b1 b2 b3 (fun s H C cells fp q => (okT_ok (sc_blk o scope b4 s H C cells fp (.inr q)) h3).1) (fun s H C cells fp q => (okE_ok e (sc_blk o scope b4 s H C cells fp (.inr q)) har h4).1) (folded_none h1)
      refine PE.weak r fun σ H Q ⟨c, w, at_, R, q⟩ => ⟨c, w, at_, R, ?_⟩
      have e1 : eComp (fun env => M.bind (evalE cl et ars it env) walkD) t (evalE cl et ars e) c.env = evalE cl et ars (.comp e t it) c.env := by
        unfold eComp
        rw [M.bind_assoc]
        rfl
      rw [e1]
      exact q
    · cases h
  | .compIf e t it cnd, Γ, X, S, s, x, o, har, h => by
    unfold okE at h
    split at h
    · rename_i elt tg iter cond scope pos
      obtain ⟨h, h6⟩ := and2 h
      obtain ⟨h, h5⟩ := and2 h
      obtain ⟨h, h4⟩ := and2 h
      obtain ⟨h, h3⟩ := and2 h
      obtain ⟨h1, h2⟩ := and2 h
      obtain ⟨b1, b2, b3, b4⟩ := blk_ok o h2
      refine both_of (x := .ListComp elt [⟨tg, iter, [cond], 0⟩] scope pos) ?_ fun _ _ => rfl
      have r : PE X (.ListComp elt [⟨tg, iter, [cond], 0⟩] scope pos) (tE S s (eCompIf (fun env => M.bind (evalE cl et ars it env) walkD) t (evalE cl et ars cnd) (evalE cl et ars e))) := by
        by_cases z : Γ.mode = 0
        · have hi : PI X tg iter (tI S false fun env => M.bind (evalE cl et ars it env) walkD) := by
            rw [Bool.or_eq_true] at h6
            rcases h6 with h6 | h6
            · exact okR_ok it o har (and2 h6).2
            · exact si_seq o.hK (okE_ok it o har (and2 h6).2).1
          exact se_compIf (s := s) (pos := pos) (fe := evalE cl et ars e) (fc := evalE cl et ars cnd) (o.calm z) o.nd o.hK hi b1 b2 b3 (fun s H C cells fp => (okT_ok (sc_blk o scope b4 s H C cells fp (.inl z)) h3).1) (fun s H C cells fp => (okE_ok cnd (sc_blk o scope b4 s H C cells fp (.inl z)) har h5).2) (fun s H C cells fp => (okE_ok e (sc_blk o scope b4 s H C cells fp (.inl z)) har h4).1) (folded_none h1)
        · rw [Bool.or_eq_true] at h6
          rcases h6 with h6 | h6
          · exact absurd (eq_of_beq (and2 h6).1) z
          · obtain ⟨m1, m2⟩ := and2 h6
            rw [Bool.or_eq_true] at m1
            have z1 : Γ.mode = 1 := eq_of_beq (m1.resolve_left fun q => z (eq_of_beq q))
            exact se_compIfK (s := s) (pos := pos) (fe := evalE cl et ars e) (fc := evalE cl et ars cnd) (o.hot z1).1 o.nd o.hK (sik_seq o.hK (okE_ok it o har m2).1) b1 b2 b3 (fun s H C cells fp q => (okT_ok (sc_blk o scope b4 s H C cells fp (.inr q)) h3).1) (fun s H C cells fp q => (okE_ok cnd (sc_blk o scope b4 s H C cells fp (.inr q)) har h5).2) (fun s H C cells fp q => (okE_ok e (sc_blk o scope b4 s H C cells fp (.inr q)) har h4).1) (folded_none h1)
      refine PE.weak r fun σ H Q ⟨c, w, at_, R, q⟩ => ⟨c, w, at_, R, ?_⟩
      have e1 : eCompIf (fun env => M.bind (evalE cl et ars it env) walkD) t (evalE cl et ars cnd) (evalE cl et ars e) c.env = evalE cl et ars (.compIf e t it cnd) c.env := by
        unfold eCompIf
        rw [M.bind_assoc]
        rfl
      rw [e1]
      exact q
    · cases h
  | .rev a, Γ, X, S, s, x, o, har, h => by
    unfold okE at h
    split at h
    · exact both_of (se_rev o.hK (okE_ok a o har h).1) fun _ _ => rfl
    · cases h
  | .comp2 _ _ _ _ _, _, _, _, _, _, _, _, h => by cases h
  | .mcount _ _, _, _, _, _, _, _, _, h => by cases h
  | .mindex a b, Γ, X, S, s, x, o, har, h => by
    unfold okE at h
    split at h
    · rename_i l lp at_ apos r cpos
      obtain ⟨h, h5⟩ := and2 h
      obtain ⟨h, h4⟩ := and2 h
      obtain ⟨h, h3⟩ := and2 h
      obtain ⟨h1, h2⟩ := and2 h
      have h1 := eq_of_beq h1
      subst h1
      exact both_of (se_index o.hK o.units (okE_ok a o har h4).1 (okE_ok b o har h5).1 (starEach_cons h2) h3 rfl) fun _ _ => rfl
    · cases h
  | .chain3 o1 o2 o3 a b c d, Γ, X, S, s, x, o, har, h => by
    unfold okE at h
    split at h
    · obtain ⟨h, h8⟩ := and2 h
      obtain ⟨h, h7⟩ := and2 h
      obtain ⟨h, h6⟩ := and2 h
      obtain ⟨h, h5⟩ := and2 h
      obtain ⟨h, h4⟩ := and2 h
      obtain ⟨h, h3⟩ := and2 h
      obtain ⟨h1, h2⟩ := and2 h
      rw [cmB_eq h1, cmB_eq h2, cmB_eq h3]
      exact ⟨se_chain3 o.hK o.units (okE_ok a o har h5).1 (okE_ok b o har h6).1 (okE_ok c o har h7).1 (okE_ok d o har h8).1 (behind_none h4), st_chain3 o.hK o.units (okE_ok a o har h5).1 (okE_ok b o har h6).1 (okE_ok c o har h7).1 (okE_ok d o har h8).1 (behind_none h4)⟩
    · cases h
  | .rg t a b, Γ, X, S, s, x, o, har, h => by
    unfold okE at h
    split at h
    · rename_i n p m p2 l r p3 p4
      obtain ⟨h, h9⟩ := and2 h
      obtain ⟨h, h8⟩ := and2 h
      obtain ⟨h, h7⟩ := and2 h
      obtain ⟨h, h6⟩ := and2 h
      obtain ⟨h, h5⟩ := and2 h
      obtain ⟨h, h4⟩ := and2 h
      obtain ⟨h, h3⟩ := and2 h
      obtain ⟨h1, h2⟩ := and2 h
      have h1 := eq_of_beq h1
      subst h1
      have h3 := eq_of_beq h3
      subst h3
      obtain ⟨f1, f2, _, _⟩ := free_ok o h2
      obtain ⟨g1, g2, _, _⟩ := free_ok o h4
      exact both_of (se_rg2 (o.calm (eq_of_beq h9)) f1 f2 g1 g2 (okE_ok a o har h7).1 (okE_ok b o har h8).1 (starEach_cons h5) (starEach_cons h6) (starEach_cons (by rfl))) fun _ _ => rfl
    · rename_i n p m p2 r p3 p4
      obtain ⟨h, h9⟩ := and2 h
      obtain ⟨h, h8⟩ := and2 h
      obtain ⟨h, h6⟩ := and2 h
      obtain ⟨h, h5⟩ := and2 h
      obtain ⟨h, h4⟩ := and2 h
      obtain ⟨h, h3⟩ := and2 h
      obtain ⟨h1, h2⟩ := and2 h
      have h1 := eq_of_beq h1
      subst h1
      have h3 := eq_of_beq h3
      subst h3
      obtain ⟨f1, f2, _, _⟩ := free_ok o h2
      obtain ⟨g1, g2, _, _⟩ := free_ok o h4
      split at h5
      · exact both_of (se_rg1 (o.calm (eq_of_beq h9)) f1 f2 g1 g2 (okE_ok b o har h8).1 (starEach_cons h6) (starEach_cons (by rfl))) fun _ _ => rfl
      · cases h5
    · cases h
  | .sset a, Γ, X, S, s, x, o, har, h => by
    unfold okE at h
    split at h
    · rename_i n p m p2 l p3 p4
      obtain ⟨h, h7⟩ := and2 h
      obtain ⟨h, h6⟩ := and2 h
      obtain ⟨h, h5⟩ := and2 h
      obtain ⟨h, h4⟩ := and2 h
      obtain ⟨h, h3⟩ := and2 h
      obtain ⟨h1, h2⟩ := and2 h
      have h1 := eq_of_beq h1
      subst h1
      have h3 := eq_of_beq h3
      subst h3
      obtain ⟨f1, f2, _, _⟩ := free_ok o h2
      obtain ⟨g1, g2, _, _⟩ := free_ok o h4
      exact both_of (se_sset o.hK (o.calm (eq_of_beq h7)) f1 f2 g1 g2 (okE_ok a o har h6).1 (starEach_cons h5) (starEach_cons (by rfl))) fun _ _ => rfl
    · cases h
  | .mjoin a b, Γ, X, S, s, x, o, har, h => by
    unfold okE at h
    split at h
    · rename_i l at_ apos r cpos
      obtain ⟨h, h5⟩ := and2 h
      obtain ⟨h, h4⟩ := and2 h
      obtain ⟨h, h3⟩ := and2 h
      obtain ⟨h1, h2⟩ := and2 h
      have h1 := eq_of_beq h1
      subst h1
      split at h4
      · cases eq_of_beq h4
        exact both_of (se_join (okE_ok b o har h5).1 (starEach_cons h2) h3) fun _ _ => rfl
      · cases h4
    · cases h
  | .isx i ks, Γ, X, S, s, x, o, har, h => by
    unfold okE at h
    split at h
    · rename_i n p e p2 m p3 pos
      obtain ⟨h, h6⟩ := and2 h
      obtain ⟨h, h5⟩ := and2 h
      obtain ⟨h, h4⟩ := and2 h
      obtain ⟨h, h3⟩ := and2 h
      obtain ⟨h1, h2⟩ := and2 h
      have h1 := eq_of_beq h1
      subst h1
      obtain ⟨c, hc, hcc⟩ := List.any_eq_true.mp h6
      obtain ⟨hc1, hc2⟩ := and2 hcc
      obtain ⟨_, k0, a0, e1, e2, e3⟩ := o.hot (eq_of_beq h2)
      obtain ⟨v1, v2, v3, v4⟩ := var_ok o h4
      obtain ⟨f1, f2, _, _⟩ := free_ok o h3
      obtain ⟨g1, g2, _⟩ := glb_ok o h5
      exact both_of (se_isx (k0 := k0) (a0 := a0) e1 e2 (o.subs c ks k0 (List.mem_range.mp hc) (eq_of_beq hc2) e3) v1 v2 v3 v4 f1 f2 g1 (o.clsM c m (eq_of_beq hc1)) g2) fun _ _ => rfl
    · cases h
  | .err gi b, Γ, X, S, s, x, o, har, h => by
    unfold okE at h
    split at h
    · rename_i n p params body scope lpos pos
      obtain ⟨h, h7⟩ := and2 h
      obtain ⟨h, h6⟩ := and2 h
      obtain ⟨h, h5⟩ := and2 h
      obtain ⟨h, h4⟩ := and2 h
      obtain ⟨h, h3⟩ := and2 h
      obtain ⟨h1, h2⟩ := and2 h
      have h1 : Γ.mode = 0 := eq_of_beq h1
      obtain ⟨r1, c, P, r2, r3, r4, r5⟩ := o.lamx h2
      obtain ⟨t, ge, pg, bg, sg, dV, kV, doc, pm, cdv, ct, oc, an, od, osl, Ng, a, m, e1, e2, e3, e4, e5, e6, e7, e8, e9, e10, e11, e12, e13, e14⟩ := o.errF h2 gi n (eq_of_beq h4)
      obtain ⟨g1, g2, g3⟩ := glb_ok o h3
      have L : LamX.LamS X.env.scope scope := by
        rw [o.sc]
        exact LamX.lamS_by h5
      have ep : params = ⟨[], [], none, [], [], none, []⟩ := by
        unfold noPar at h6
        split at h6
        · rfl
        · cases h6
      subst ep
      refine both_of (se_err (k := k) g1 e1 e2 e3 e4 e5 e6 e7 e8 (e11 _) r3 r2 r4 r5 r1 L rfl (fun _ _ _ _ _ => rfl) (fun A outer z M E f c' hr => (okE_ok b (sc_lam o scope L h1 A outer z M E f c' hr) har h7).1) g2 e9 e10 e12 e13 e14 (by omega)) fun _ _ => rfl
    · cases h
theorem okEs_ok : ∀ (es : Es) {Γ : Sc} {X : Cx} {S : Sg} {s : Bool} {xs : List Expr}, XOk G cl et ars k Γ X S → (∀ i : Nat, ars[i]? = (G.fns[i]?).map fun p : Str × Nat => p.2) → okEs G Γ s es xs = true → PA X xs (tEs S s (evalEs cl et ars es)) ∧ Len (evalEs cl et ars es) es.len ∧ noStars xs = true
  | .nil, Γ, X, S, s, xs, o, har, h => by
    cases xs with
    | nil => exact ⟨sa_nil, len_nil, rfl⟩
    | cons _ _ => cases h
  | .cons e es, Γ, X, S, s, xs, o, har, h => by
    cases xs with
    | nil => cases h
    | cons x xs =>
      obtain ⟨h12, h3⟩ := and2 (show (noStar x && okE G Γ s e x && okEs G Γ s es xs) = true from h)
      obtain ⟨h1, h2⟩ := and2 h12
      obtain ⟨p1, p2, p3⟩ := okEs_ok es o har h3
      exact ⟨sa_cons (okE_ok e o har h2).1 p1 (starEach_cons h1), len_cons p2, by show (noStar x && noStars xs) = true; rw [h1, p3]; rfl⟩
theorem okR_ok : ∀ (e : E) {Γ : Sc} {X : Cx} {S : Sg} {s : Bool} {tg x : Expr}, XOk G cl et ars k Γ X S → (∀ i : Nat, ars[i]? = (G.fns[i]?).map fun p : Str × Nat => p.2) → okR G Γ s e tg x = true → PI X tg x (tI S s fun env => M.bind (evalE cl et ars e env) walkD)
  | .bi b es, Γ, X, S, s, tg, x, o, har, h => by
    unfold okR at h
    split at h
    · split at h
      · obtain ⟨h12, h3⟩ := and2 h
        obtain ⟨h1, h2⟩ := and2 h12
        obtain ⟨f1, f2, f3, f4⟩ := free_ok o h2
        have h1 := eq_of_beq h1
        subst h1
        obtain ⟨p1, p2, p3⟩ := okEs_ok es o har h3
        have hl : es.len = 1 := okEs_len es h3
        rw [hl] at p2
        exact si_range1 f1 f2 p1 p2 (starEach_all p3)
      · obtain ⟨h12, h3⟩ := and2 h
        obtain ⟨h1, h2⟩ := and2 h12
        obtain ⟨f1, f2, f3, f4⟩ := free_ok o h2
        have h1 := eq_of_beq h1
        subst h1
        obtain ⟨p1, p2, p3⟩ := okEs_ok es o har h3
        have hl : es.len = 2 := okEs_len es h3
        rw [hl] at p2
        exact si_range2 f1 f2 p1 p2 (starEach_all p3) (starEach_all (and2 p3).2)
      · obtain ⟨h12, h3⟩ := and2 h
        obtain ⟨h1, h2⟩ := and2 h12
        obtain ⟨f1, f2, f3, f4⟩ := free_ok o h2
        have h1 := eq_of_beq h1
        subst h1
        obtain ⟨p1, p2, p3⟩ := okEs_ok es o har h3
        have hl : es.len = 3 := okEs_len es h3
        rw [hl] at p2
        exact si_range3 f1 f2 p1 p2 (starEach_cons (and2 p3).1) (backTo_plain (and2 p3).2)
      · cases h
    · split at h
      · obtain ⟨h123, h4⟩ := and2 h
        obtain ⟨h12, h3⟩ := and2 h123
        obtain ⟨h1, h2⟩ := and2 h12
        obtain ⟨f1, f2, f3, f4⟩ := free_ok o h2
        have h1 := eq_of_beq h1
        subst h1
        obtain ⟨p1, p2, p3⟩ := okEs_ok es o har h4
        cases tg with
        | Tuple elts kk tpos => exact si_zip o.hK f1 f2 p1 (starEach_cons (and2 p3).1) (backTo_plain (and2 p3).2)
        | _ => cases h3
      · cases h
    · split at h
      · obtain ⟨h123, h4⟩ := and2 h
        obtain ⟨h12, h3⟩ := and2 h123
        obtain ⟨h1, h2⟩ := and2 h12
        obtain ⟨f1, f2, f3, f4⟩ := free_ok o h2
        have h1 := eq_of_beq h1
        subst h1
        obtain ⟨p1, p2, p3⟩ := okEs_ok es o har h4
        cases tg with
        | Tuple elts kk tpos => exact si_enum o.hK f1 f2 p1 (starEach_all p3)
        | _ => cases h3
      · cases h
    · cases h
  | .var _, _, _, _, _, _, _, _, _, h => by cases h
  | .con _, _, _, _, _, _, _, _, _, h => by cases h
  | .bin _ _ _, _, _, _, _, _, _, _, _, h => by cases h
  | .neg _, _, _, _, _, _, _, _, _, h => by cases h
  | .not _, _, _, _, _, _, _, _, _, h => by cases h
  | .cmp _ _ _, _, _, _, _, _, _, _, _, h => by cases h
  | .chain _ _ _ _ _, _, _, _, _, _, _, _, _, h => by cases h
  | .and _ _, _, _, _, _, _, _, _, _, h => by cases h
  | .or _ _, _, _, _, _, _, _, _, _, h => by cases h
  | .ite _ _ _, _, _, _, _, _, _, _, _, h => by cases h
  | .tup _, _, _, _, _, _, _, _, _, h => by cases h
  | .lst _, _, _, _, _, _, _, _, _, h => by cases h
  | .idx _ _, _, _, _, _, _, _, _, _, h => by cases h
  | .slLo _ _, _, _, _, _, _, _, _, _, h => by cases h
  | .slHi _ _, _, _, _, _, _, _, _, _, h => by cases h
  | .slBo _ _ _, _, _, _, _, _, _, _, _, h => by cases h
  | .rev _, _, _, _, _, _, _, _, _, h => by cases h
  | .call _ _, _, _, _, _, _, _, _, _, h => by cases h
  | .callv _ _, _, _, _, _, _, _, _, _, h => by cases h
  | .isi _ _, _, _, _, _, _, _, _, _, h => by cases h
  | .comp _ _ _, _, _, _, _, _, _, _, _, h => by cases h
  | .compIf _ _ _ _, _, _, _, _, _, _, _, _, h => by cases h
  | .comp2 _ _ _ _ _, _, _, _, _, _, _, _, _, h => by cases h
  | .mcount _ _, _, _, _, _, _, _, _, _, h => by cases h
  | .mindex _ _, _, _, _, _, _, _, _, _, h => by cases h
  | .mjoin _ _, _, _, _, _, _, _, _, _, h => by cases h
  | .sset _, _, _, _, _, _, _, _, _, h => by cases h
  | .rg _ _ _, _, _, _, _, _, _, _, _, h => by cases h
  | .chain3 _ _ _ _ _ _ _, _, _, _, _, _, _, _, _, h => by cases h
  | .err _ _, _, _, _, _, _, _, _, _, h => by cases h
  | .isx _ _, _, _, _, _, _, _, _, _, h => by cases h
end
end
end VI
end
section
set_option maxRecDepth 100000
set_option maxHeartbeats 1000000
namespace VI
open PySem PySem.Spec PyProof.Rows L2
/-! ### new lists, checked -/
def lstE : E → Bool
  | .lst _ => true
  | .comp _ _ _ => true
  | .compIf _ _ _ _ => true
  | .bi .list _ => true
  | .bi .sorted _ => true
  | .bin .add a b => lstE a || lstE b
  | .bin .mul a _ => lstE a
  | _ => false
section
variable {cl : Nat → List D → M D} {et : Nat → Str × (Nat → Option Str)} {ars : List Nat}
theorem bind_inv {α β : Type} {m : M α} {f : α → M β} {w w' : List D} {d : β} (h : M.bind m f w = .ok d w') : ∃ a w1, m w = .ok a w1 ∧ f a w1 = .ok d w' := by
  unfold M.bind at h
  cases e : m w with
  | ok a w1 => rw [e] at h; exact ⟨a, w1, rfl, h⟩
  | ex c w1 => rw [e] at h; cases h
  | no => rw [e] at h; cases h
theorem lift_inv {α : Type} {o : Option α} {w w' : List D} {d : α} (h : liftO o w = .ok d w') : o = some d ∧ w = w' := by
  cases o with
  | none => cases h
  | some a => cases h; exact ⟨rfl, rfl⟩
theorem pure_lst {xs : List D} {w w' : List D} {d : D} (h : M.pure (D.lst xs) w = .ok d w') : isLstD d = true := by cases h; rfl
theorem add_lst {x y z : D} (h : binD .add x y = some z) (hl : isLstD x = true ∨ isLstD y = true) : isLstD x = true ∧ isLstD z = true := by
  unfold binD at h
  split at h <;> first | (rcases hl with hl | hl <;> cases hl; done) | skip
  · rename_i xs ys
    split at h
    · cases h; exact ⟨rfl, rfl⟩
    · cases h
  all_goals first | (rename_i e _ _; cases e; done) | (rename_i e _; cases e; done) | (rename_i e; cases e; done) | cases h
theorem mul_lst {x y z : D} (h : binD .mul x y = some z) (hl : isLstD x = true) : isLstD z = true := by
  cases x with
  | lst xs =>
    cases y with
    | int j =>
      have h : (if small j && decide (xs.length * j.toNat ≤ line) then some (D.lst (reps j.toNat xs)) else none) = some z := h
      split at h
      · cases h; rfl
      · cases h
    | _ => cases h
  | _ => cases hl
theorem lstE_ok : ∀ (e : E) {env : Env} {w : List D} {d : D} {w' : List D}, lstE e = true → evalE cl et ars e env w = .ok d w' → isLstD d = true
  | .lst es, env, w, d, w', _, h => by
    obtain ⟨xs, w1, h1, h2⟩ := bind_inv h
    exact pure_lst h2
  | .comp e t it, env, w, d, w', _, h => by
    obtain ⟨_, _, _, h⟩ := bind_inv h
    obtain ⟨_, _, _, h⟩ := bind_inv h
    obtain ⟨_, _, _, h⟩ := bind_inv h
    obtain ⟨_, _, _, h⟩ := bind_inv h
    exact pure_lst h
  | .compIf e t it c, env, w, d, w', _, h => by
    obtain ⟨_, _, _, h⟩ := bind_inv h
    obtain ⟨_, _, _, h⟩ := bind_inv h
    obtain ⟨_, _, _, h⟩ := bind_inv h
    obtain ⟨_, _, _, h⟩ := bind_inv h
    exact pure_lst h
  | .bi b es, env, w, d, w', hl, h => by
    obtain ⟨xs, w1, h1, h2⟩ := bind_inv h
    obtain ⟨h3, _⟩ := lift_inv h2
    cases b with
    | list =>
      unfold biD at h3
      split at h3 <;> first | contradiction | skip
      obtain ⟨_, _, rfl⟩ := Option.map_eq_some_iff.mp h3
      rfl
    | sorted =>
      unfold biD at h3
      split at h3 <;> first | contradiction | skip
      obtain ⟨_, _, rfl⟩ := Option.map_eq_some_iff.mp h3
      rfl
    | _ => cases hl
  | .bin o a b, env, w, d, w', hl, h => by
    obtain ⟨x, w1, h1, h⟩ := bind_inv h
    obtain ⟨y, w2, h2, h⟩ := bind_inv h
    obtain ⟨h3, _⟩ := lift_inv h
    cases o with
    | add =>
      have hl : (lstE a || lstE b) = true := hl
      rw [Bool.or_eq_true] at hl
      exact (add_lst h3 (hl.imp (fun z => lstE_ok a z h1) fun z => lstE_ok b z h2)).2
    | mul => exact mul_lst h3 (lstE_ok a hl h1)
    | _ => cases hl
  | .var _, _, _, _, _, hl, _ => by cases hl
  | .con _, _, _, _, _, hl, _ => by cases hl
  | .neg _, _, _, _, _, hl, _ => by cases hl
  | .not _, _, _, _, _, hl, _ => by cases hl
  | .cmp _ _ _, _, _, _, _, hl, _ => by cases hl
  | .chain _ _ _ _ _, _, _, _, _, hl, _ => by cases hl
  | .and _ _, _, _, _, _, hl, _ => by cases hl
  | .or _ _, _, _, _, _, hl, _ => by cases hl
  | .ite _ _ _, _, _, _, _, hl, _ => by cases hl
  | .tup _, _, _, _, _, hl, _ => by cases hl
  | .idx _ _, _, _, _, _, hl, _ => by cases hl
  | .slLo _ _, _, _, _, _, hl, _ => by cases hl
  | .slHi _ _, _, _, _, _, hl, _ => by cases hl
  | .slBo _ _ _, _, _, _, _, hl, _ => by cases hl
  | .rev _, _, _, _, _, hl, _ => by cases hl
  | .call _ _, _, _, _, _, hl, _ => by cases hl
  | .callv _ _, _, _, _, _, hl, _ => by cases hl
  | .isi _ _, _, _, _, _, hl, _ => by cases hl
  | .comp2 _ _ _ _ _, _, _, _, _, hl, _ => by cases hl
  | .mcount _ _, _, _, _, _, hl, _ => by cases hl
  | .mindex _ _, _, _, _, _, hl, _ => by cases hl
  | .mjoin _ _, _, _, _, _, hl, _ => by cases hl
  | .sset _, _, _, _, _, hl, _ => by cases hl
  | .rg _ _ _, _, _, _, _, hl, _ => by cases hl
  | .chain3 _ _ _ _ _ _ _, _, _, _, _, hl, _ => by cases hl
  | .err _ _, _, _, _, _, hl, _ => by cases hl
  | .isx _ _, _, _, _, _, hl, _ => by cases hl
end
section
variable (G : Cst)
def okF (Γ : Sc) : E → Expr → Bool
  | .lst es, x => match x with
    | .List xs _ => decide (es.len ≤ 1000) && okEs G Γ true es xs
    | _ => false
  | .bin o a b, x => match x with
    | .BinOp l op r _ => opB o op && (match o with | .add => lstE a || lstE b | .mul => lstE a | _ => false) && okE G Γ false a l && okE G Γ false b r
    | _ => false
  | .bi .list es, x => match x with
    | .Call (.Name n _) [y] [] _ => n == ("list" : Str) && freeB G Γ n && okEs G Γ false es [y]
    | _ => false
  | .comp e t it, x => match x with
    | .ListComp elt [⟨tg, iter, [], 0⟩] scope _ => Γ.mode == 0 && noSet iter && okBlk Γ t scope && okT (Γ.blk scope) t tg && okE G (Γ.blk scope) true e elt && (okR G Γ false it tg iter || okE G Γ false it iter)
    | _ => false
  | .compIf e t it c, x => match x with
    | .ListComp elt [⟨tg, iter, [cond], 0⟩] scope _ => Γ.mode == 0 && noSet iter && okBlk Γ t scope && okT (Γ.blk scope) t tg && okE G (Γ.blk scope) true e elt && okE G (Γ.blk scope) false c cond && (okR G Γ false it tg iter || okE G Γ false it iter)
    | _ => false
  | _, _ => false
end
section
variable {G : Cst} {cl : Nat → List D → M D} {et : Nat → Str × (Nat → Option Str)} {ars : List Nat} {k : Nat} {Γ : Sc} {X : Cx} {S : Sg}
theorem eComp_eq {e it : E} {t : T} {env : Env} : eComp (fun env => M.bind (evalE cl et ars it env) walkD) t (evalE cl et ars e) env = evalE cl et ars (.comp e t it) env := by
  unfold eComp
  rw [M.bind_assoc]
  rfl
theorem eCompIf_eq {e it c : E} {t : T} {env : Env} : eCompIf (fun env => M.bind (evalE cl et ars it env) walkD) t (evalE cl et ars c) (evalE cl et ars e) env = evalE cl et ars (.compIf e t it c) env := by
  unfold eCompIf
  rw [M.bind_assoc]
  rfl
theorem okF_ok {e : E} {x : Expr} (o : XOk G cl et ars k Γ X S) (har : ∀ i : Nat, ars[i]? = (G.fns[i]?).map fun p : Str × Nat => p.2) (h : okF G Γ e x = true) : PE X x (tEF S (evalE cl et ars e)) ∧ lstE e = true := by
  unfold okF at h
  split at h
  · split at h
    · obtain ⟨h1, h2⟩ := and2 h
      obtain ⟨p1, p2, _⟩ := okEs_ok (et := et) _ o har h2
      exact ⟨sf_lst p1 p2 (of_decide_eq_true h1), rfl⟩
    · cases h
  · rename_i ob a b
    split at h
    · obtain ⟨h, h4⟩ := and2 h
      obtain ⟨h, h3⟩ := and2 h
      obtain ⟨h1, h2⟩ := and2 h
      rw [opB_eq h1]
      cases ob with
      | add =>
        have hz := h2
        rw [Bool.or_eq_true] at hz
        exact ⟨sf_bin o.hK (.inl rfl) (fun env w dx w1 dy w2 dz e1 e2 e3 => (add_lst e3 (hz.imp (fun z => lstE_ok a z e1) fun z => lstE_ok b z e2)).1) (okE_ok a o har h3).1 (okE_ok b o har h4).1, h2⟩
      | mul => exact ⟨sf_bin o.hK (.inr rfl) (fun env w dx w1 dy w2 dz e1 e2 e3 => lstE_ok a h2 e1) (okE_ok a o har h3).1 (okE_ok b o har h4).1, h2⟩
      | _ => cases h2
    · cases h
  · split at h
    · obtain ⟨h12, h3⟩ := and2 h
      obtain ⟨h1, h2⟩ := and2 h12
      obtain ⟨f1, f2, f3, f4⟩ := free_ok o h2
      have h1 := eq_of_beq h1
      subst h1
      obtain ⟨p1, p2, p3⟩ := okEs_ok (et := et) _ o har h3
      have hl := okEs_len _ h3
      rw [hl] at p2
      exact ⟨sf_list f1 f2 o.hK p1 p2 (starEach_cons (and2 p3).1) rfl, rfl⟩
    · cases h
  · rename_i e t it
    split at h
    · rename_i elt tg iter scope pos
      obtain ⟨h, h5⟩ := and2 h
      obtain ⟨h, h4⟩ := and2 h
      obtain ⟨h, h3⟩ := and2 h
      obtain ⟨h01, h2⟩ := and2 h
      obtain ⟨h0, h1⟩ := and2 h01
      have h0 : Γ.mode = 0 := eq_of_beq h0
      obtain ⟨b1, b2, b3, b4⟩ := blk_ok o h2
      have hi : PI X tg iter (tI S false fun env => M.bind (evalE cl et ars it env) walkD) := by
        rw [Bool.or_eq_true] at h5
        rcases h5 with h5 | h5
        · exact okR_ok it o har h5
        · exact si_seq o.hK (okE_ok it o har h5).1
      have r := sf_comp (pos := pos) (fe := evalE cl et ars e) (o.calm h0) o.nd o.hK hi b1 b2 b3 (fun s H C cells fp => (okT_ok (sc_blk o scope b4 s H C cells fp (.inl h0)) h3).1) (fun s H C cells fp => (okE_ok e (sc_blk o scope b4 s H C cells fp (.inl h0)) har h4).1) (folded_none h1)
      refine ⟨PE.weak r fun σ H Q ⟨c, w, at_, R, q⟩ => ⟨c, w, at_, R, ?_⟩, rfl⟩
      rw [eComp_eq]
      exact q
    · cases h
  · rename_i e t it cnd
    split at h
    · rename_i elt tg iter cond scope pos
      obtain ⟨h, h6⟩ := and2 h
      obtain ⟨h, h5⟩ := and2 h
      obtain ⟨h, h4⟩ := and2 h
      obtain ⟨h, h3⟩ := and2 h
      obtain ⟨h01, h2⟩ := and2 h
      obtain ⟨h0, h1⟩ := and2 h01
      have h0 : Γ.mode = 0 := eq_of_beq h0
      obtain ⟨b1, b2, b3, b4⟩ := blk_ok o h2
      have hi : PI X tg iter (tI S false fun env => M.bind (evalE cl et ars it env) walkD) := by
        rw [Bool.or_eq_true] at h6
        rcases h6 with h6 | h6
        · exact okR_ok it o har h6
        · exact si_seq o.hK (okE_ok it o har h6).1
      have r := sf_compIf (pos := pos) (fe := evalE cl et ars e) (fc := evalE cl et ars cnd) (o.calm h0) o.nd o.hK hi b1 b2 b3 (fun s H C cells fp => (okT_ok (sc_blk o scope b4 s H C cells fp (.inl h0)) h3).1) (fun s H C cells fp => (okE_ok cnd (sc_blk o scope b4 s H C cells fp (.inl h0)) har h5).2) (fun s H C cells fp => (okE_ok e (sc_blk o scope b4 s H C cells fp (.inl h0)) har h4).1) (folded_none h1)
      refine ⟨PE.weak r fun σ H Q ⟨c, w, at_, R, q⟩ => ⟨c, w, at_, R, ?_⟩, rfl⟩
      rw [eCompIf_eq]
      exact q
    · cases h
  · cases h
end
end VI
end
section
set_option maxRecDepth 100000
set_option maxHeartbeats 1000000
namespace VI
open PySem PySem.Spec PyProof.Rows L2
/-! ### statements against a text -/
def pureOf {α : Type} : Sem α → Option α
  | .pure a => some a
  | _ => none
theorem pureOf_eq {α : Type} {m : Sem α} {a : α} (h : pureOf m = some a) : m = Pure.pure a := by
  cases m <;> first | (cases h; rfl) | cases h
def e0 (sc : Scope) : PySem.Env := { scope := sc, locals := 0, globals := 0, cells := [] }
theorem stores_e0 {ts : List Expr} {v : Expr} {env : PySem.Env} : swappedStores ts v env = swappedStores ts v (e0 env.scope) := rfl
theorem swaps_e0 {v : Expr} {t : Option Expr} {l : Nat} {env : PySem.Env} : swapsWith v t l env = swapsWith v t l (e0 env.scope) := rfl
def noComp : Expr → Bool
  | .ListComp _ _ _ _ => false
  | .SetComp _ _ _ _ => false
  | .DictComp _ _ _ _ _ => false
  | _ => true
theorem swaps_none {e : Expr} {t : Option Expr} {l : Nat} {env : PySem.Env} (h : noComp e = true) : swapsWith e t l env = pure false := by
  cases e <;> first | rfl | cases h
theorem swaps_tuple {e : Expr} {ts : List Expr} {k : Nat} {p : Pos} {l : Nat} {env : PySem.Env} : swapsWith e (some (.Tuple ts k p)) l env = pure false := by
  cases e <;> rfl
mutual
def strongE (s : Bool) : E → List Nat
  | .var i => if s then [i] else []
  | .con _ => []
  | .bin _ a b => strongE false a ++ strongE false b
  | .neg a => strongE false a
  | .not a => strongE false a
  | .cmp _ a b => strongE false a ++ strongE false b
  | .chain _ _ a b c => strongE false a ++ strongE false b ++ strongE false c
  | .and a b => strongE false a ++ strongE false b
  | .or a b => strongE false a ++ strongE false b
  | .ite c a b => strongE false c ++ strongE s a ++ strongE s b
  | .tup es => strongEs true es
  | .lst es => strongEs true es
  | .idx a b => strongE false a ++ strongE false b
  | .slLo a b => strongE false a ++ strongE false b
  | .slHi a b => strongE false a ++ strongE false b
  | .slBo a b c => strongE false a ++ strongE false b ++ strongE false c
  | .rev a => strongE false a
  | .call _ es => strongEs true es
  | .callv i es => i :: strongEs true es
  | .bi _ es => strongEs false es
  | .isi a _ => strongE false a
  | .comp e t it => t.slots ++ strongE true e ++ strongE false it
  | .compIf e t it c => t.slots ++ strongE true e ++ strongE false it ++ strongE false c
  | .comp2 e t it t2 it2 => t.slots ++ t2.slots ++ strongE true e ++ strongE false it ++ strongE false it2
  | .mcount a b => strongE false a ++ strongE false b
  | .mindex a b => strongE false a ++ strongE false b
  | .mjoin a b => strongE false a ++ strongE false b
  | .sset a => strongE false a
  | .chain3 _ _ _ a b c d => strongE false a ++ strongE false b ++ strongE false c ++ strongE false d
  | .rg _ a b => strongE false a ++ strongE false b
  | .err _ b => strongE true b
  | .isx _ _ => []
def strongEs (s : Bool) : Es → List Nat
  | .nil => []
  | .cons e es => strongE s e ++ strongEs s es
end
mutual
/-- what a loop's body takes away of the own lists -/
def goneS (mtd : List Nat) : S → List Nat
  | .asg t e => strongE true e ++ (if lstE e && t.slots.all fun i => mtd.contains i then [] else t.slots)
  | .par is es => strongEs true es ++ is
  | .setI _ i e => strongE false i ++ strongE true e
  | .setC _ i e => strongE false i ++ strongE true e
  | .app _ e => strongE true e
  | .expr e => strongE false e
  | .ite c a b => strongE false c ++ goneSs mtd a ++ goneSs mtd b
  | .for t it b => t.slots ++ strongE true it ++ goneSs mtd b
  | .while c b => strongE false c ++ goneSs mtd b
  | .ret _ => []
  | .retN => []
  | .raise _ => []
  | .brk => []
  | .cont => []
  | .pass => []
  | .mkcup _ _ => []
def goneSs (mtd : List Nat) : Ss → List Nat
  | .nil => []
  | .cons s ss => goneS mtd s ++ goneSs mtd ss
end
def dropL (own l : List Nat) : List Nat := own.filter fun i => !l.contains i
theorem dropL_sub {own l : List Nat} : ∀ i ∈ dropL own l, i ∈ own := fun i h => (List.mem_filter.mp h).1
def Sc.w (Γ : Sc) (own : List Nat) : Sc := { Γ with own := own }
def leO (own : List Nat) : Option (List Nat) → Prop
  | none => True
  | some l => ∀ i ∈ own, i ∈ l
def leB (own : List Nat) : Option (List Nat) → Bool
  | none => true
  | some l => own.all fun i => l.contains i
theorem leB_ok {own : List Nat} {r : Option (List Nat)} (h : leB own r = true) : leO own r := by
  cases r with
  | none => trivial
  | some l => exact fun i hi => List.contains_iff_mem.mp (List.all_eq_true.mp h i hi)
def joinO : Option (List Nat) → Option (List Nat) → Option (List Nat)
  | none, r => r
  | r, none => r
  | some a, some b => some (a.filter fun i => b.contains i)
theorem join_l {own : List Nat} {a b : Option (List Nat)} (h : leO own (joinO a b)) : leO own a := by
  cases a with
  | none => trivial
  | some a =>
    cases b with
    | none => exact h
    | some b => exact fun i hi => (List.mem_filter.mp (h i hi)).1
theorem join_r {own : List Nat} {a b : Option (List Nat)} (h : leO own (joinO a b)) : leO own b := by
  cases a with
  | none => exact h
  | some a =>
    cases b with
    | none => trivial
    | some b => exact fun i hi => List.contains_iff_mem.mp (List.mem_filter.mp (h i hi)).2
def tsOf : List Nat → Ts
  | [] => .nil
  | i :: is => .cons (.nm i) (tsOf is)
theorem tsOf_parts : ∀ {is : List Nat} {ds : List D} {env : Env}, bindT (.tp (tsOf is)) (.tup ds) env = setParts is ds env
  | [], [], _ => rfl
  | [], _ :: _, _ => rfl
  | i :: is, [], _ => rfl
  | i :: is, d :: ds, env => tsOf_parts (is := is) (ds := ds) (env := env.set i (some d))
theorem tsOf_slots : ∀ {is : List Nat}, (tsOf is).slots = is
  | [] => rfl
  | i :: is => by
    show [i] ++ (tsOf is).slots = i :: is
    rw [tsOf_slots]; rfl
def stOk (Γ : Sc) (tg x : Expr) (l : Nat) : Bool := (pureOf (swapsWith x (some tg) l (e0 Γ.sc)) == some false) && (pureOf (swappedStores [tg] x (e0 Γ.sc)) == some none) && noStar tg
def strLit : Expr → Bool
  | .Constant (.str _) _ _ => true
  | _ => false
def okAsg (G : Cst) (Γ : Sc) (t : T) (e : E) (tg x : Expr) (l : Nat) : Option (Option (List Nat)) :=
  let Γ1 := Γ.w (dropL Γ.own (strongE true e ++ t.slots))
  match t with
  | .nm i => match tg with
    | .Name n py =>
      if Γ.mtd.contains i && lstE e then
        (if okF G Γ1 e x && Γ.N[i]? == some n && locB Γ.sc n then
          (if pureOf (swapsWith x (some tg) l (e0 Γ.sc)) == some false then some (some (i :: Γ1.own))
          else if pureOf (swapsWith x (some tg) l (e0 Γ.sc)) == some true && Γ.mode == 0 then some (some (i :: Γ1.own)) else none)
        else none)
      else if okE G Γ1 true e x && okT Γ1 (.nm i) tg then
        (if stOk Γ tg x l then some (some Γ1.own)
        else if pureOf (swapsWith x (some tg) l (e0 Γ.sc)) == some true && locB Γ.sc n && Γ.N[i]? == some n && Γ.mode == 0 then some (some Γ1.own) else none)
      else none
    | _ => none
  | .tp ts => if okE G Γ1 true e x && okT Γ1 (.tp ts) tg && stOk Γ tg x l then some (some Γ1.own) else none
/-- which of the names take a new list as their own -/
def marksE (Γ : Sc) : List Nat → Es → List Bool
  | i :: is, .cons e es => (Γ.mtd.contains i && lstE e) :: marksE Γ is es
  | _, _ => []
def okMs (G : Cst) (Γ : Sc) : List Bool → Es → List Expr → Bool
  | m :: ms, .cons e es, x :: xs => noStar x && (if m then okF G Γ e x else okE G Γ true e x) && okMs G Γ ms es xs
  | [], .nil, [] => true
  | _, _, _ => false
def okParM (G : Cst) (Γ : Sc) (is : List Nat) (es : Es) (tgs xs : List Expr) (k : Nat) (p1 : Pos) (k2 : Nat) (p2 : Pos) (ms : List Bool) : Option (Option (List Nat)) :=
  let Γ1 := Γ.w (dropL Γ.own (strongEs true es ++ is))
  match pureOf (swappedStores [.Tuple tgs k p1] (.Tuple xs k2 p2) (e0 Γ.sc)) with
  | some (some ns) => match is, tgs, xs with
    | [i, j], [.Name x px, .Name y py], [a, b] => if okMs G Γ1 ms es xs && (Γ.mode == 0 && ns == [x, y] && decide (i ≠ j) && Γ.N[i]? == some x && Γ.N[j]? == some y && locB Γ.sc x && locB Γ.sc y) then some (some (ownS is ms Γ1.own)) else none
    | [i, j, l], [.Name x px, .Name y py, .Name z pz], [a, b, c] => if okMs G Γ1 ms es xs && (Γ.mode == 0 && ns == [x, y, z] && decide (i ≠ j) && decide (i ≠ l) && decide (j ≠ l) && Γ.N[i]? == some x && Γ.N[j]? == some y && Γ.N[l]? == some z && locB Γ.sc x && locB Γ.sc y && locB Γ.sc z) then some (some (ownS is ms Γ1.own)) else none
    | _, _, _ => none
  | _ => none
def okPar (G : Cst) (Γ : Sc) (is : List Nat) (es : Es) (tgs xs : List Expr) (k : Nat) (p1 : Pos) (k2 : Nat) (p2 : Pos) : Option (Option (List Nat)) :=
  let Γ1 := Γ.w (dropL Γ.own (strongEs true es ++ is))
  if (marksE Γ is es).any id then okParM G Γ is es tgs xs k p1 k2 p2 (marksE Γ is es) else
  if !(okEs G Γ1 true es xs) then none else
  match pureOf (swappedStores [.Tuple tgs k p1] (.Tuple xs k2 p2) (e0 Γ.sc)) with
  | some none => if okTs Γ1 (tsOf is) tgs && decide (es.len ≤ 1000) then some (some Γ1.own) else none
  | some (some ns) => match is, tgs, xs with
    | [i, j], [.Name x px, .Name y py], [a, b] => if Γ.mode == 0 && ns == [x, y] && decide (i ≠ j) && Γ.N[i]? == some x && Γ.N[j]? == some y && locB Γ.sc x && locB Γ.sc y then some (some Γ1.own) else none
    | [i, j, l], [.Name x px, .Name y py, .Name z pz], [a, b, c] => if Γ.mode == 0 && ns == [x, y, z] && decide (i ≠ j) && decide (i ≠ l) && decide (j ≠ l) && Γ.N[i]? == some x && Γ.N[j]? == some y && Γ.N[l]? == some z && locB Γ.sc x && locB Γ.sc y && locB Γ.sc z then some (some Γ1.own) else none
    | _, _, _ => none
  | none => none
section
variable (G : Cst)
mutual
def okS (Γ : Sc) (lo : List Nat) : S → Stmt → Option (Option (List Nat))
  | .asg t e, st => match st with
    | .Assign [tg] x p => okAsg G Γ t e tg x p.line
    | _ => none
  | .par is es, st => match st with
    | .Assign [.Tuple tgs k p1] (.Tuple xs k2 p2) p => okPar G Γ is es tgs xs k p1 k2 p2
    | _ => none
  | .setI x i e, st => match st with
    | .Assign [.Subscript (.Name n _) ix _] v p =>
      let Γ1 := Γ.w (dropL Γ.own (strongE false i ++ strongE true e))
      if varB Γ x n && noSlice ix && noComp v && Γ1.own.contains x && okE G Γ1 true e v && okE G Γ1 false i ix then some (some Γ1.own) else none
    | _ => none
  | .setC x i e, st => match st with
    | .Assign [.Subscript (.Name n _) ix _] v p =>
      let Γ1 := Γ.w (dropL Γ.own (strongE false i ++ strongE true e))
      if varB Γ x n && noSlice ix && noComp v && !Γ1.own.contains x && okE G Γ1 true e v && okE G Γ1 false i ix then some (some Γ1.own) else none
    | _ => none
  | .app x e, st => match st with
    | .Expr (.Call (.Attribute (.Name n _) at_ apos) [v] [] cpos) _ =>
      let Γ1 := Γ.w (dropL Γ.own (strongE true e))
      if at_ == ("append" : Str) && varB Γ x n && noStar v && (apos.endLine == cpos.line) && Γ1.own.contains x && okE G Γ1 true e v then some (some Γ1.own) else none
    | _ => none
  | .expr e, st => match st with
    | .Expr x _ =>
      let Γ1 := Γ.w (dropL Γ.own (strongE false e))
      if noComp x && okE G Γ1 false e x then some (some Γ1.own) else none
    | _ => none
  | .ite c a b, st => match st with
    | .If t xs ys _ =>
      let Γ1 := Γ.w (dropL Γ.own (strongE false c))
      if okE G Γ1 false c t then match okSs Γ1 lo a xs, okSs Γ1 lo b ys with
        | some r1, some r2 => some (joinO r1 r2)
        | _, _ => none
      else none
    | _ => none
  | .for t it b, st => match st with
    | .For tg iter xs [] _ =>
      let Γ1 := Γ.w (dropL Γ.own (strongE true it ++ t.slots ++ goneSs Γ.mtd b))
      if okT Γ1 t tg && noSet iter && (okR G Γ1 true it tg iter || okE G Γ1 true it iter) && Γ.mode == 0 then match okSs Γ1 Γ1.own b xs with
        | some r => if leB Γ1.own r then some (some Γ1.own) else none
        | none => none
      else none
    | _ => none
  | .while c b, st => match st with
    | .While t xs [] _ =>
      let Γ1 := Γ.w (dropL Γ.own (strongE false c ++ goneSs Γ.mtd b))
      if okE G Γ1 false c t && Γ.mode == 0 then match okSs Γ1 Γ1.own b xs with
        | some r => if leB Γ1.own r then some (some Γ1.own) else none
        | none => none
      else none
    | _ => none
  | .ret e, st => match st with
    | .Return (some x) _ => if okE G (Γ.w (dropL Γ.own (strongE true e))) true e x then some none else none
    | _ => none
  | .retN, st => match st with
    | .Return none _ => some none
    | _ => none
  | .raise c, st => match st with
    | .Raise (some (.Call (.Name n _) [.Constant (.str _) _ _] [] _)) none _ => if glbB Γ n && G.cls[c]? == some n && Γ.mode == 0 then some none else none
    | _ => none
  | .brk, st => match st with
    | .Break _ => if lo.all fun i => Γ.own.contains i then some none else none
    | _ => none
  | .cont, st => match st with
    | .Continue _ => if lo.all fun i => Γ.own.contains i then some none else none
    | _ => none
  | .pass, st => match st with
    | .Pass _ => some (some Γ.own)
    | _ => none
  | .mkcup _ _, _ => none
def okSs (Γ : Sc) (lo : List Nat) : Ss → List Stmt → Option (Option (List Nat))
  | .nil, xs => match xs with
    | [] => some (some Γ.own)
    | _ :: _ => none
  | .cons s ss, xs => match xs with
    | [] => none
    | x :: xs => match okS Γ lo s x with
      | some (some own) => okSs (Γ.w own) lo ss xs
      | some none => okSs (Γ.w []) lo ss xs
      | none => none
end
end
end VI
end
section
set_option maxRecDepth 100000
set_option maxHeartbeats 1000000
namespace VI
open PySem PySem.Spec PyProof.Rows L2
section
variable {G : Cst} {cl : Nat → List D → M D} {et : Nat → Str × (Nat → Option Str)} {ars : List Nat} {k : Nat} {Γ : Sc} {X : Cx} {S : Sg}
theorem XOk.w (o : XOk G cl et ars k Γ X S) (own : List Nat) : XOk G cl et ars k (Γ.w own) X (S.w own) where
  hK := o.hK
  hN := o.hN
  nd := o.nd
  sc := o.sc
  kind := o.kind
  calm := o.calm
  own := rfl
  fnl := o.fnl
  fnf := fun i x n h => ⟨(o.fnf i x n h).1, ⟨(o.fnf i x n h).2.ex⟩⟩
  con := o.con
  free := o.free
  gcd := o.gcd
  un := o.un
  room := o.room
  pass := o.pass
  hot := o.hot
  hotk := o.hotk
  mode := o.mode
  lamx := o.lamx
  errF := o.errF
  clsM := o.clsM
  subs := o.subs
/-- a def's own level: what statements need more -/
structure XOkS (G : Cst) (cl : Nat → List D → M D) (et : Nat → Str × (Nat → Option Str)) (ars : List Nat) (k : Nat) (Γ : Sc) (X : Cx) (S : Sg) : Prop where
  o : XOk G cl et ars k Γ X S
  takes : Γ.mode = 0 → L2N.Takes X fun cls d _ H => S.EX cls d H
  po : Γ.mode = 0 → PassesOwn (model X.prog X.w) X.A X.env X.xe
  cls : ∀ c n, G.cls[c]? = some n → X.mg n = some (.ref (S.g.ca c)) ∧ PySem.W.keepIn X.K (.ref (S.g.ca c)) = true ∧ Raises X (.ref (S.g.ca c)) ∧ ∃ B newId initId bmB, PySem.ExcBaseFacts B newId initId bmB ∧ PySem.W.excIn X.K (S.g.ca c) bmB newId = true
theorem XOkS.w (o : XOkS G cl et ars k Γ X S) (own : List Nat) : XOkS G cl et ars k (Γ.w own) X (S.w own) := ⟨o.o.w own, o.takes, o.po, o.cls⟩
theorem asg_core {lo own : List Nat} {t : T} {fe : Env → M D} {Ds : Ends} {σ : L2.St} {H : Hp} (hd : ∀ i ∈ t.slots, i ∉ own) (h : tSt (S.w own) lo own (fun env => M.bind (fe env) fun d => M.bind (liftO (bindT t d env)) fun env' => M.pure (.nx env')) Ds σ H) :
    tE (S.w own) true fe σ H fun x H1 => readT S.g.K t x σ H1 Ds.nx := by
  obtain ⟨c, w, at_, R, q⟩ := h
  refine tE_mono (oneW (s := true) at_ R q) fun x H1 ⟨d, w1, R1, k1, r1, q1⟩ => ?_
  cases e1 : bindT t d c.env with
  | none => rw [e1] at q1; exact q1.elim
  | some env' =>
    rw [e1] at q1
    have e0 := at_.1
    rw [← e0]
    exact bind_ok R1 r1 e1 (slots_own at_ hd) fun σ' R' s' => q1 (c.to env' σ') H1 (Tr.keepTo R k1) rfl at_.2.2.2 R'
/-- what is checked of a block, told for the rule of a name's own comprehension -/
theorem lc_asg {lo : List Nat} {e it : E} {t : T} {i : Nat} {n : Str} {py p pos : Pos} {elt iter tg : Expr} {scope : Scope} (o : XOk G cl et ars k Γ X S) (h0 : Γ.mode = 0) (har : ∀ i : Nat, ars[i]? = (G.fns[i]?).map fun p : Str × Nat => p.2) (h : okE G Γ true (.comp e t it) (.ListComp elt [⟨tg, iter, [], 0⟩] scope pos) = true)
    (hN : X.N[i]? = some n) (hl : X.env.scope.names.lookup n = some .local) (hi : i ∉ S.own) (hsw : swapsWith (.ListComp elt [⟨tg, iter, [], 0⟩] scope pos) (some (.Name n py)) p.line X.env = pure true) :
    PS X (.Assign [.Name n py] (.ListComp elt [⟨tg, iter, [], 0⟩] scope pos) p) (tSt S lo S.own fun env => M.bind (evalE cl et ars (.comp e t it) env) fun d => M.bind (liftO (bindT (.nm i) d env)) fun env' => M.pure (.nx env')) := by
  have h : (noSet iter && okBlk Γ t scope && okT (Γ.blk scope) t tg && okE G (Γ.blk scope) true e elt && ((Γ.mode == 0 && okR G Γ false it tg iter) || ((Γ.mode == 0 || Γ.mode == 1) && okE G Γ false it iter))) = true := h
  obtain ⟨h, h5⟩ := and2 h
  obtain ⟨h, h4⟩ := and2 h
  obtain ⟨h, h3⟩ := and2 h
  obtain ⟨h1, h2⟩ := and2 h
  obtain ⟨b1, b2, b3, b4⟩ := blk_ok o h2
  have hit : PI X tg iter (tI S false fun env => M.bind (evalE cl et ars it env) walkD) := by
    rw [Bool.or_eq_true] at h5
    rcases h5 with h5 | h5
    · exact okR_ok it o har (and2 h5).2
    · exact si_seq o.hK (okE_ok it o har (and2 h5).2).1
  refine PS.weak (ps_setLc (pos := pos) (o.calm h0) o.nd hN hl hsw hit b1 (fun s H C cells fp => (okT_ok (sc_blk o scope b4 s H C cells fp (.inl h0)) h3).1) (fun _ _ _ _ _ => pts_nil) (fun s H C cells fp => (okE_ok (et := et) (ars := ars) e (sc_blk o scope b4 s H C cells fp (.inl h0)) har h4).1) (folded_none h1)) fun Ds σ H q => ?_
  have r := asg_core (S := S) (own := S.own) (t := .nm i) (fun j hj => by
    have : j = i := by simpa [T.slots] using hj
    rw [this]; exact hi) q
  show tLc _ _ _ _ _ σ H _
  rw [b2]
  refine tlc_comp (s := true) b3 ?_
  obtain ⟨c, w, at_, R, q⟩ := r
  refine ⟨c, w, at_, R, ?_⟩
  rw [eComp_eq]
  exact q
theorem lc_asgIf {lo : List Nat} {e it cnd : E} {t : T} {i : Nat} {n : Str} {py p pos : Pos} {elt iter tg cond : Expr} {scope : Scope} (o : XOk G cl et ars k Γ X S) (h0 : Γ.mode = 0) (har : ∀ i : Nat, ars[i]? = (G.fns[i]?).map fun p : Str × Nat => p.2) (h : okE G Γ true (.compIf e t it cnd) (.ListComp elt [⟨tg, iter, [cond], 0⟩] scope pos) = true)
    (hN : X.N[i]? = some n) (hl : X.env.scope.names.lookup n = some .local) (hi : i ∉ S.own) (hsw : swapsWith (.ListComp elt [⟨tg, iter, [cond], 0⟩] scope pos) (some (.Name n py)) p.line X.env = pure true) :
    PS X (.Assign [.Name n py] (.ListComp elt [⟨tg, iter, [cond], 0⟩] scope pos) p) (tSt S lo S.own fun env => M.bind (evalE cl et ars (.compIf e t it cnd) env) fun d => M.bind (liftO (bindT (.nm i) d env)) fun env' => M.pure (.nx env')) := by
  have h : (noSet iter && okBlk Γ t scope && okT (Γ.blk scope) t tg && okE G (Γ.blk scope) true e elt && okE G (Γ.blk scope) false cnd cond && ((Γ.mode == 0 && okR G Γ false it tg iter) || ((Γ.mode == 0 || Γ.mode == 1) && okE G Γ false it iter))) = true := h
  obtain ⟨h, h6⟩ := and2 h
  obtain ⟨h, h5⟩ := and2 h
  obtain ⟨h, h4⟩ := and2 h
  obtain ⟨h, h3⟩ := and2 h
  obtain ⟨h1, h2⟩ := and2 h
  obtain ⟨b1, b2, b3, b4⟩ := blk_ok o h2
  have hit : PI X tg iter (tI S false fun env => M.bind (evalE cl et ars it env) walkD) := by
    rw [Bool.or_eq_true] at h6
    rcases h6 with h6 | h6
    · exact okR_ok it o har (and2 h6).2
    · exact si_seq o.hK (okE_ok it o har (and2 h6).2).1
  refine PS.weak (ps_setLc (pos := pos) (o.calm h0) o.nd hN hl hsw hit b1 (fun s H C cells fp => (okT_ok (sc_blk o scope b4 s H C cells fp (.inl h0)) h3).1) (fun s H C cells fp => pts_one (okE_ok (et := et) (ars := ars) cnd (sc_blk o scope b4 s H C cells fp (.inl h0)) har h5).2) (fun s H C cells fp => (okE_ok (et := et) (ars := ars) e (sc_blk o scope b4 s H C cells fp (.inl h0)) har h4).1) (folded_none h1)) fun Ds σ H q => ?_
  have r := asg_core (S := S) (own := S.own) (t := .nm i) (fun j hj => by
    have : j = i := by simpa [T.slots] using hj
    rw [this]; exact hi) q
  show tLc _ _ _ _ _ σ H _
  rw [b2]
  refine tlc_compIf (s := true) b3 ?_
  obtain ⟨c, w, at_, R, q⟩ := r
  refine ⟨c, w, at_, R, ?_⟩
  rw [eCompIf_eq]
  exact q
theorem lc_asgF {lo : List Nat} {e it : E} {t : T} {i : Nat} {n : Str} {py p pos : Pos} {elt iter tg : Expr} {scope : Scope} (o : XOk G cl et ars k Γ X S) (h0 : Γ.mode = 0) (har : ∀ i : Nat, ars[i]? = (G.fns[i]?).map fun p : Str × Nat => p.2) (h : okF G Γ (.comp e t it) (.ListComp elt [⟨tg, iter, [], 0⟩] scope pos) = true)
    (hN : X.N[i]? = some n) (hl : X.env.scope.names.lookup n = some .local) (hi : i ∉ S.own) (hsw : swapsWith (.ListComp elt [⟨tg, iter, [], 0⟩] scope pos) (some (.Name n py)) p.line X.env = pure true) :
    PS X (.Assign [.Name n py] (.ListComp elt [⟨tg, iter, [], 0⟩] scope pos) p) (tSt S lo (i :: S.own) fun env => M.bind (evalE cl et ars (.comp e t it) env) fun d => M.bind (liftO (bindT (.nm i) d env)) fun env' => M.pure (.nx env')) := by
  have h : (Γ.mode == 0 && noSet iter && okBlk Γ t scope && okT (Γ.blk scope) t tg && okE G (Γ.blk scope) true e elt && (okR G Γ false it tg iter || okE G Γ false it iter)) = true := h
  obtain ⟨h, h5⟩ := and2 h
  obtain ⟨h, h4⟩ := and2 h
  obtain ⟨h, h3⟩ := and2 h
  obtain ⟨h01, h2⟩ := and2 h
  obtain ⟨_, h1⟩ := and2 h01
  obtain ⟨b1, b2, b3, b4⟩ := blk_ok o h2
  have hit : PI X tg iter (tI S false fun env => M.bind (evalE cl et ars it env) walkD) := by
    rw [Bool.or_eq_true] at h5
    rcases h5 with h5 | h5
    · exact okR_ok it o har h5
    · exact si_seq o.hK (okE_ok it o har h5).1
  refine PS.weak (ps_setLc (pos := pos) (o.calm h0) o.nd hN hl hsw hit b1 (fun s H C cells fp => (okT_ok (sc_blk o scope b4 s H C cells fp (.inl h0)) h3).1) (fun _ _ _ _ _ => pts_nil) (fun s H C cells fp => (okE_ok (et := et) (ars := ars) e (sc_blk o scope b4 s H C cells fp (.inl h0)) har h4).1) (folded_none h1)) fun Ds σ H q => ?_
  show tLc _ _ _ _ _ σ H _
  rw [b2]
  refine tlc_compF b3 ?_
  obtain ⟨c, w, at_, R, q⟩ := q
  have r := asgF_core (S := S) (own := S.own) (lo := lo) (i := i) (fe := evalE cl et ars (.comp e t it)) at_ R hi q fun d w' => lstE_ok _ rfl
  refine ⟨c, w, at_, R, ?_⟩
  rw [eComp_eq]
  exact r
theorem lc_asgFIf {lo : List Nat} {e it cnd : E} {t : T} {i : Nat} {n : Str} {py p pos : Pos} {elt iter tg cond : Expr} {scope : Scope} (o : XOk G cl et ars k Γ X S) (h0 : Γ.mode = 0) (har : ∀ i : Nat, ars[i]? = (G.fns[i]?).map fun p : Str × Nat => p.2) (h : okF G Γ (.compIf e t it cnd) (.ListComp elt [⟨tg, iter, [cond], 0⟩] scope pos) = true)
    (hN : X.N[i]? = some n) (hl : X.env.scope.names.lookup n = some .local) (hi : i ∉ S.own) (hsw : swapsWith (.ListComp elt [⟨tg, iter, [cond], 0⟩] scope pos) (some (.Name n py)) p.line X.env = pure true) :
    PS X (.Assign [.Name n py] (.ListComp elt [⟨tg, iter, [cond], 0⟩] scope pos) p) (tSt S lo (i :: S.own) fun env => M.bind (evalE cl et ars (.compIf e t it cnd) env) fun d => M.bind (liftO (bindT (.nm i) d env)) fun env' => M.pure (.nx env')) := by
  have h : (Γ.mode == 0 && noSet iter && okBlk Γ t scope && okT (Γ.blk scope) t tg && okE G (Γ.blk scope) true e elt && okE G (Γ.blk scope) false cnd cond && (okR G Γ false it tg iter || okE G Γ false it iter)) = true := h
  obtain ⟨h, h6⟩ := and2 h
  obtain ⟨h, h5⟩ := and2 h
  obtain ⟨h, h4⟩ := and2 h
  obtain ⟨h, h3⟩ := and2 h
  obtain ⟨h01, h2⟩ := and2 h
  obtain ⟨_, h1⟩ := and2 h01
  obtain ⟨b1, b2, b3, b4⟩ := blk_ok o h2
  have hit : PI X tg iter (tI S false fun env => M.bind (evalE cl et ars it env) walkD) := by
    rw [Bool.or_eq_true] at h6
    rcases h6 with h6 | h6
    · exact okR_ok it o har h6
    · exact si_seq o.hK (okE_ok it o har h6).1
  refine PS.weak (ps_setLc (pos := pos) (o.calm h0) o.nd hN hl hsw hit b1 (fun s H C cells fp => (okT_ok (sc_blk o scope b4 s H C cells fp (.inl h0)) h3).1) (fun s H C cells fp => pts_one (okE_ok (et := et) (ars := ars) cnd (sc_blk o scope b4 s H C cells fp (.inl h0)) har h5).2) (fun s H C cells fp => (okE_ok (et := et) (ars := ars) e (sc_blk o scope b4 s H C cells fp (.inl h0)) har h4).1) (folded_none h1)) fun Ds σ H q => ?_
  show tLc _ _ _ _ _ σ H _
  rw [b2]
  refine tlc_compIfF b3 ?_
  obtain ⟨c, w, at_, R, q⟩ := q
  have r := asgF_core (S := S) (own := S.own) (lo := lo) (i := i) (fe := evalE cl et ars (.compIf e t it cnd)) at_ R hi q fun d w' => lstE_ok _ rfl
  refine ⟨c, w, at_, R, ?_⟩
  rw [eCompIf_eq]
  exact r
end
end VI
end
section
set_option maxRecDepth 100000
set_option maxHeartbeats 4000000
namespace VI
open PySem PySem.Spec PyProof.Rows L2
def isCompE : E → Bool
  | .comp _ _ _ => true
  | .compIf _ _ _ _ => true
  | _ => false
section
variable {G : Cst} {cl : Nat → List D → M D} {et : Nat → Str × (Nat → Option Str)} {ars : List Nat} {k : Nat} {Γ : Sc} {X : Cx} {S : Sg}
theorem okE_noComp {s : Bool} {e : E} {x : Expr} (h : okE G Γ s e x = true) (hc : isCompE e = false) : noComp x = true := by
  cases x <;> first | rfl | (cases e <;> first | (cases hc; done) | (cases h; done))
theorem okF_noComp {e : E} {x : Expr} (h : okF G Γ e x = true) (hc : isCompE e = false) : noComp x = true := by
  cases x <;> first | rfl | (cases e <;> first | (cases hc; done) | (cases h; done) | (rename_i b _; cases b <;> cases h))
theorem swaps_clash {x : Expr} {t : Option Expr} {l : Nat} {env : PySem.Env} (h : swapsWith x t l env = pure true) (hn : noComp x = true) : False := by
  rw [swaps_none hn] at h
  cases h
theorem lc_any {lo : List Nat} {e : E} {x : Expr} {i : Nat} {n : Str} {py p : Pos} (o : XOk G cl et ars k Γ X S) (h0 : Γ.mode = 0) (har : ∀ i : Nat, ars[i]? = (G.fns[i]?).map fun p : Str × Nat => p.2) (h : okE G Γ true e x = true)
    (hN : X.N[i]? = some n) (hl : X.env.scope.names.lookup n = some .local) (hi : i ∉ S.own) (hsw : swapsWith x (some (.Name n py)) p.line X.env = pure true) :
    PS X (.Assign [.Name n py] x p) (tSt S lo S.own fun env => M.bind (evalE cl et ars e env) fun d => M.bind (liftO (bindT (.nm i) d env)) fun env' => M.pure (.nx env')) := by
  by_cases hc : isCompE e = false
  · exact (swaps_clash hsw (okE_noComp h hc)).elim
  · cases e with
    | comp e t it =>
      have h' := h
      unfold okE at h'
      split at h'
      · exact lc_asg o h0 har h hN hl hi hsw
      · cases h'
    | compIf e t it c =>
      have h' := h
      unfold okE at h'
      split at h'
      · exact lc_asgIf o h0 har h hN hl hi hsw
      · cases h'
    | _ => exact absurd rfl hc
theorem lc_anyF {lo : List Nat} {e : E} {x : Expr} {i : Nat} {n : Str} {py p : Pos} (o : XOk G cl et ars k Γ X S) (h0 : Γ.mode = 0) (har : ∀ i : Nat, ars[i]? = (G.fns[i]?).map fun p : Str × Nat => p.2) (h : okF G Γ e x = true)
    (hN : X.N[i]? = some n) (hl : X.env.scope.names.lookup n = some .local) (hi : i ∉ S.own) (hsw : swapsWith x (some (.Name n py)) p.line X.env = pure true) :
    PS X (.Assign [.Name n py] x p) (tSt S lo (i :: S.own) fun env => M.bind (evalE cl et ars e env) fun d => M.bind (liftO (bindT (.nm i) d env)) fun env' => M.pure (.nx env')) := by
  by_cases hc : isCompE e = false
  · exact (swaps_clash hsw (okF_noComp h hc)).elim
  · cases e with
    | comp e t it =>
      have h' := h
      dsimp only [okF] at h'
      split at h'
      · exact lc_asgF o h0 har h hN hl hi hsw
      · cases h'
    | compIf e t it c =>
      have h' := h
      dsimp only [okF] at h'
      split at h'
      · exact lc_asgFIf o h0 har h hN hl hi hsw
      · cases h'
    | _ => exact absurd rfl hc
theorem drop_not {own l : List Nat} {i : Nat} (h : i ∈ l) : i ∉ dropL own l := fun z => by
  have := (List.mem_filter.mp z).2
  rw [List.contains_iff_mem.mpr h] at this
  cases this
theorem okAsg_ok {lo own' : List Nat} {t : T} {e : E} {tg x : Expr} {p : Pos} {r : Option (List Nat)} (o : XOkS G cl et ars k Γ X S) (har : ∀ i : Nat, ars[i]? = (G.fns[i]?).map fun p : Str × Nat => p.2) (h : okAsg G Γ t e tg x p.line = some r) (hr : leO own' r) :
    PS X (.Assign [tg] x p) (tSt (S.w Γ.own) lo own' fun env => M.bind (evalE cl et ars e env) fun d => M.bind (liftO (bindT t d env)) fun env' => M.pure (.nx env')) := by
  have hsub := dropL_sub (own := Γ.own) (l := strongE true e ++ t.slots)
  have o1 : XOk G cl et ars k (Γ.w (dropL Γ.own (strongE true e ++ t.slots))) X (S.w (dropL Γ.own (strongE true e ++ t.slots))) := (o.w _).o
  have hsc := o.o.sc
  have st : ∀ {tg : Expr}, stOk Γ tg x p.line = true → swapsWithSole [tg] x p.line X.env = pure false ∧ swappedStores [tg] x X.env = pure none ∧ (assignEach [tg] X.env).map (·.2) = [assign tg X.env] := fun {tg} z => by
    obtain ⟨z12, z3⟩ := and2 z
    obtain ⟨z1, z2⟩ := and2 z12
    refine ⟨?_, ?_, ?_⟩
    · show swapsWith x (some tg) p.line X.env = pure false
      rw [swaps_e0, hsc]
      exact pureOf_eq (eq_of_beq z1)
    · rw [stores_e0, hsc]
      exact pureOf_eq (eq_of_beq z2)
    · rw [assignEach_cons z3]; rfl
  unfold okAsg at h
  dsimp only at h
  split at h
  · rename_i i
    split at h
    · rename_i n py
      have sw : ∀ {b : Bool}, (pureOf (swapsWith x (some (.Name n py)) p.line (e0 Γ.sc)) == some b) = true → swapsWith x (some (.Name n py)) p.line X.env = pure b := fun {b} z => by
        rw [swaps_e0, hsc]
        exact pureOf_eq (eq_of_beq z)
      split at h
      · rename_i hf
        obtain ⟨hf1, hf2⟩ := and2 hf
        split at h
        · rename_i hg
          obtain ⟨hg12, hg3⟩ := and2 hg
          obtain ⟨hg1, hg2⟩ := and2 hg12
          have hN : X.N[i]? = some n := by rw [o.o.hN]; exact eq_of_beq hg2
          have hl : X.env.scope.names.lookup n = some .local := by rw [hsc]; exact eq_of_beq hg3
          have hi : i ∉ dropL Γ.own (strongE true e ++ T.slots (.nm i)) := drop_not (List.mem_append_right _ (by simp [T.slots]))
          split at h
          · rename_i hs
            cases h
            exact ss_pre (ss_post (ss_asgF o.o.nd hN hl (fun env w d w' z => lstE_ok e hf2 z) (okF_ok (et := et) (ars := ars) o1 har hg1).1 hi (sw hs)) hr) hsub
          · split at h
            · rename_i hs
              cases h
              obtain ⟨hs, hm⟩ := and2 hs
              exact ss_pre (ss_post (lc_anyF o1 (eq_of_beq hm) har hg1 hN hl hi (sw hs)) hr) hsub
            · cases h
        · cases h
      · split at h
        · rename_i hg
          obtain ⟨hg1, hg2⟩ := and2 hg
          split at h
          · rename_i hs
            cases h
            obtain ⟨s1, s2, s3⟩ := st hs
            obtain ⟨t1, t2⟩ := okT_ok o1 hg2
            exact ss_pre (ss_post (ss_asg (okE_ok (et := et) (ars := ars) e o1 har hg1).1 t1 t2 s1 s2 s3) hr) hsub
          · split at h
            · rename_i hs
              cases h
              obtain ⟨hs123, hm⟩ := and2 hs
              obtain ⟨hs12, hs3⟩ := and2 hs123
              obtain ⟨hs1, hs2⟩ := and2 hs12
              have hN : X.N[i]? = some n := by rw [o.o.hN]; exact eq_of_beq hs3
              have hl : X.env.scope.names.lookup n = some .local := by rw [hsc]; exact eq_of_beq hs2
              have hi : i ∉ dropL Γ.own (strongE true e ++ T.slots (.nm i)) := drop_not (List.mem_append_right _ (by simp [T.slots]))
              exact ss_pre (ss_post (lc_any o1 (eq_of_beq hm) har hg1 hN hl hi (sw hs1)) hr) hsub
            · cases h
        · cases h
    · cases h
  · split at h
    · rename_i ts hg
      cases h
      obtain ⟨hg12, hg3⟩ := and2 hg
      obtain ⟨hg1, hg2⟩ := and2 hg12
      obtain ⟨s1, s2, s3⟩ := st hg3
      obtain ⟨t1, t2⟩ := okT_ok o1 hg2
      exact ss_pre (ss_post (ss_asg (okE_ok (et := et) (ars := ars) e o1 har hg1).1 t1 t2 s1 s2 s3) hr) hsub
    · cases h
theorem sole_tuple {e : Expr} {ts : List Expr} {k : Nat} {p : Pos} {l : Nat} {env : PySem.Env} : swapsWithSole [.Tuple ts k p] e l env = pure false := by
  show swapsWith e (some (.Tuple ts k p)) l env = pure false
  exact swaps_tuple
def msOf (cl : Nat → List D → M D) (et : Nat → Str × (Nat → Option Str)) (ars : List Nat) : List Bool → Es → List (Bool × (Env → M D))
  | m :: ms, .cons e es => (m, evalE cl et ars e) :: msOf cl et ars ms es
  | _, _ => []
theorem okMs_ok {Γ1 : Sc} {S1 : Sg} (o : XOk G cl et ars k Γ1 X S1) (har : ∀ i : Nat, ars[i]? = (G.fns[i]?).map fun p : Str × Nat => p.2) : ∀ {ms : List Bool} {es : Es} {xs : List Expr}, okMs G Γ1 ms es xs = true →
    PA X xs (tMs S1 (msOf cl et ars ms es)) ∧ (∀ p ∈ msOf cl et ars ms es, p.1 = true → ∀ env w d w', p.2 env w = .ok d w' → isLstD d = true) ∧ (∀ env, evalMs (msOf cl et ars ms es) env = evalEs cl et ars es env) ∧ (msOf cl et ars ms es).map (·.1) = ms
  | [], .nil, [], _ => ⟨pa_nil, fun _ h => absurd h List.not_mem_nil, fun _ => rfl, rfl⟩
  | m :: ms, .cons e es, x :: xs, h => by
    obtain ⟨h, h3⟩ := and2 h
    obtain ⟨h1, h2⟩ := and2 h
    obtain ⟨q1, q2, q3, q4⟩ := okMs_ok o har h3
    have hd : PE X x (RdM S1 m (evalE cl et ars e)) ∧ (m = true → lstE e = true) := by
      cases m with
      | true =>
        obtain ⟨r1, r2⟩ := okF_ok (et := et) o har (e := e) (x := x) h2
        exact ⟨r1, fun _ => r2⟩
      | false => exact ⟨(okE_ok (et := et) (ars := ars) e o har (s := true) h2).1, fun z => by cases z⟩
    refine ⟨pa_cons hd.1 q1 (starEach_cons h1), fun p hp hm => ?_, fun env => ?_, ?_⟩
    · rcases List.mem_cons.mp hp with z | z
      · subst z
        exact fun env w d w' h => lstE_ok e (hd.2 hm) h
      · exact q2 p z hm
    · show M.bind (evalE cl et ars e env) (fun x => M.bind (evalMs (msOf cl et ars ms es) env) fun xs => M.pure (x :: xs)) = _
      rw [q3]
      rfl
    · show m :: (msOf cl et ars ms es).map (·.1) = m :: ms
      rw [q4]
  | [], .nil, _ :: _, h => by cases h
  | [], .cons _ _, _, h => by cases h
  | _ :: _, .nil, _, h => by cases h
  | _ :: _, .cons _ _, [], h => by cases h
theorem okParM_ok {lo own' is : List Nat} {es : Es} {tgs xs : List Expr} {kt k2 : Nat} {p1 p2 p : Pos} {ms : List Bool} {r : Option (List Nat)} (o : XOkS G cl et ars k Γ X S) (har : ∀ i : Nat, ars[i]? = (G.fns[i]?).map fun p : Str × Nat => p.2) (h : okParM G Γ is es tgs xs kt p1 k2 p2 ms = some r) (hr : leO own' r) :
    PS X (.Assign [.Tuple tgs kt p1] (.Tuple xs k2 p2) p) (tSt (S.w Γ.own) lo own' fun env => M.bind (evalEs cl et ars es env) fun ds => M.bind (liftO (setParts is ds env)) fun env' => M.pure (.nx env')) := by
  have hsub := dropL_sub (own := Γ.own) (l := strongEs true es ++ is)
  have o1 : XOk G cl et ars k (Γ.w (dropL Γ.own (strongEs true es ++ is))) X (S.w (dropL Γ.own (strongEs true es ++ is))) := (o.w _).o
  have hsc := o.o.sc
  have hw : ∀ {q : Option (List Str)}, pureOf (swappedStores [.Tuple tgs kt p1] (.Tuple xs k2 p2) (e0 Γ.sc)) = some q → swappedStores [.Tuple tgs kt p1] (.Tuple xs k2 p2) X.env = pure q := fun {q} z => by
    rw [stores_e0, hsc]
    exact pureOf_eq z
  have own : ∀ i ∈ is, i ∉ dropL Γ.own (strongEs true es ++ is) := fun i hi => drop_not (List.mem_append_right _ hi)
  unfold okParM at h
  dsimp only at h
  split at h
  · rename_i ns hz
    split at h
    · rename_i i j x px y py a b
      split at h
      · rename_i hg
        cases h
        obtain ⟨hm, hg⟩ := and2 hg
        obtain ⟨hg, g6⟩ := and2 hg
        obtain ⟨hg, g5⟩ := and2 hg
        obtain ⟨hg, g4⟩ := and2 hg
        obtain ⟨hg, g3⟩ := and2 hg
        obtain ⟨hg, g2⟩ := and2 hg
        obtain ⟨g0, g1⟩ := and2 hg
        have g0 : Γ.mode = 0 := eq_of_beq g0
        have g1 := eq_of_beq g1
        subst g1
        obtain ⟨q1, q2, q3, q4⟩ := okMs_ok (cl := cl) (et := et) (ars := ars) o1 har hm
        have r := ss_parM2 (lo := lo) (pos := p) (px := px) (py := py) (pt := p1) (kt := kt) (k2 := k2) (pt2 := p2) (o.o.calm g0) o.o.nd (by rw [o.o.hN]; exact eq_of_beq g3) (by rw [o.o.hN]; exact eq_of_beq g4) (of_decide_eq_true g2) (by rw [hsc]; exact eq_of_beq g5) (by rw [hsc]; exact eq_of_beq g6) q1 (hw hz) sole_tuple q2 ⟨own i (by simp), own j (by simp)⟩
        rw [q4] at r
        have e : (fun env => M.bind (evalMs (msOf cl et ars ms es) env) fun ds => M.bind (liftO (setParts [i, j] ds env)) fun env' => M.pure (F.nx env')) = (fun env => M.bind (evalEs cl et ars es env) fun ds => M.bind (liftO (setParts [i, j] ds env)) fun env' => M.pure (.nx env')) := by
          funext env
          rw [q3]
        rw [e] at r
        exact ss_pre (ss_post r hr) hsub
      · cases h
    · rename_i i j l x px y py z pz a b c
      split at h
      · rename_i hg
        cases h
        obtain ⟨hm, hg⟩ := and2 hg
        obtain ⟨hg, g10⟩ := and2 hg
        obtain ⟨hg, g9⟩ := and2 hg
        obtain ⟨hg, g8⟩ := and2 hg
        obtain ⟨hg, g7⟩ := and2 hg
        obtain ⟨hg, g6⟩ := and2 hg
        obtain ⟨hg, g5⟩ := and2 hg
        obtain ⟨hg, g4⟩ := and2 hg
        obtain ⟨hg, g3⟩ := and2 hg
        obtain ⟨hg, g2⟩ := and2 hg
        obtain ⟨g0, g1⟩ := and2 hg
        have g0 : Γ.mode = 0 := eq_of_beq g0
        have g1 := eq_of_beq g1
        subst g1
        obtain ⟨q1, q2, q3, q4⟩ := okMs_ok (cl := cl) (et := et) (ars := ars) o1 har hm
        have r := ss_parM3 (lo := lo) (pos := p) (px := px) (py := py) (pz := pz) (pt := p1) (kt := kt) (k2 := k2) (pt2 := p2) (o.o.calm g0) o.o.nd (by rw [o.o.hN]; exact eq_of_beq g5) (by rw [o.o.hN]; exact eq_of_beq g6) (by rw [o.o.hN]; exact eq_of_beq g7) (of_decide_eq_true g2) (of_decide_eq_true g3) (of_decide_eq_true g4) (by rw [hsc]; exact eq_of_beq g8) (by rw [hsc]; exact eq_of_beq g9) (by rw [hsc]; exact eq_of_beq g10) q1 (hw hz) sole_tuple q2 ⟨own i (by simp), own j (by simp), own l (by simp)⟩
        rw [q4] at r
        have e : (fun env => M.bind (evalMs (msOf cl et ars ms es) env) fun ds => M.bind (liftO (setParts [i, j, l] ds env)) fun env' => M.pure (F.nx env')) = (fun env => M.bind (evalEs cl et ars es env) fun ds => M.bind (liftO (setParts [i, j, l] ds env)) fun env' => M.pure (.nx env')) := by
          funext env
          rw [q3]
        rw [e] at r
        exact ss_pre (ss_post r hr) hsub
      · cases h
    · cases h
  · cases h
theorem okPar_ok {lo own' is : List Nat} {es : Es} {tgs xs : List Expr} {kt k2 : Nat} {p1 p2 p : Pos} {r : Option (List Nat)} (o : XOkS G cl et ars k Γ X S) (har : ∀ i : Nat, ars[i]? = (G.fns[i]?).map fun p : Str × Nat => p.2) (h : okPar G Γ is es tgs xs kt p1 k2 p2 = some r) (hr : leO own' r) :
    PS X (.Assign [.Tuple tgs kt p1] (.Tuple xs k2 p2) p) (tSt (S.w Γ.own) lo own' fun env => M.bind (evalEs cl et ars es env) fun ds => M.bind (liftO (setParts is ds env)) fun env' => M.pure (.nx env')) := by
  have hsub := dropL_sub (own := Γ.own) (l := strongEs true es ++ is)
  have o1 : XOk G cl et ars k (Γ.w (dropL Γ.own (strongEs true es ++ is))) X (S.w (dropL Γ.own (strongEs true es ++ is))) := (o.w _).o
  have hsc := o.o.sc
  unfold okPar at h
  dsimp only at h
  split at h
  · exact okParM_ok o har h hr
  rename_i hmk
  clear hmk
  split at h
  · cases h
  rename_i hes
  have hes : okEs G (Γ.w (dropL Γ.own (strongEs true es ++ is))) true es xs = true := by
    cases z : okEs G (Γ.w (dropL Γ.own (strongEs true es ++ is))) true es xs with
    | true => rfl
    | false => rw [z] at hes; exact absurd rfl hes
  obtain ⟨p1', p2', _⟩ := okEs_ok (et := et) es o1 har hes
  have hw : ∀ {q : Option (List Str)}, pureOf (swappedStores [.Tuple tgs kt p1] (.Tuple xs k2 p2) (e0 Γ.sc)) = some q → swappedStores [.Tuple tgs kt p1] (.Tuple xs k2 p2) X.env = pure q := fun {q} z => by
    rw [stores_e0, hsc]
    exact pureOf_eq z
  have own : ∀ i ∈ is, i ∉ dropL Γ.own (strongEs true es ++ is) := fun i hi => drop_not (List.mem_append_right _ hi)
  split at h
  · rename_i hz
    split at h
    · rename_i hg
      cases h
      obtain ⟨hg1, hg2⟩ := and2 hg
      obtain ⟨t1, t2⟩ := okT_ok (t := .tp (tsOf is)) (x := .Tuple tgs kt p1) o1 hg1
      exact ss_pre (ss_post (ss_parT (ts := tsOf is) (fun _ _ => tsOf_parts) p2' (of_decide_eq_true hg2) p1' t1 (fun i hi => by rw [tsOf_slots] at hi; exact own i hi) sole_tuple (hw hz) rfl) hr) hsub
    · cases h
  · rename_i ns hz
    split at h
    · rename_i i j x px y py a b _ _
      split at h
      · rename_i hg
        cases h
        obtain ⟨hg, g6⟩ := and2 hg
        obtain ⟨hg, g5⟩ := and2 hg
        obtain ⟨hg, g4⟩ := and2 hg
        obtain ⟨hg, g3⟩ := and2 hg
        obtain ⟨hg, g2⟩ := and2 hg
        obtain ⟨g0, g1⟩ := and2 hg
        have g0 : Γ.mode = 0 := eq_of_beq g0
        have g1 := eq_of_beq g1
        subst g1
        exact ss_pre (ss_post (ss_par2 (o.o.calm g0) o.o.nd (by rw [o.o.hN]; exact eq_of_beq g3) (by rw [o.o.hN]; exact eq_of_beq g4) (of_decide_eq_true g2) (by rw [hsc]; exact eq_of_beq g5) (by rw [hsc]; exact eq_of_beq g6) p1' (hw hz) sole_tuple ⟨own i (by simp), own j (by simp)⟩) hr) hsub
      · cases h
    · rename_i i j l x px y py z pz a b c _ _
      split at h
      · rename_i hg
        cases h
        obtain ⟨hg, g10⟩ := and2 hg
        obtain ⟨hg, g9⟩ := and2 hg
        obtain ⟨hg, g8⟩ := and2 hg
        obtain ⟨hg, g7⟩ := and2 hg
        obtain ⟨hg, g6⟩ := and2 hg
        obtain ⟨hg, g5⟩ := and2 hg
        obtain ⟨hg, g4⟩ := and2 hg
        obtain ⟨hg, g3⟩ := and2 hg
        obtain ⟨hg, g2⟩ := and2 hg
        obtain ⟨g0, g1⟩ := and2 hg
        have g0 : Γ.mode = 0 := eq_of_beq g0
        have g1 := eq_of_beq g1
        subst g1
        exact ss_pre (ss_post (ss_par3 (o.o.calm g0) o.o.nd (by rw [o.o.hN]; exact eq_of_beq g5) (by rw [o.o.hN]; exact eq_of_beq g6) (by rw [o.o.hN]; exact eq_of_beq g7) (of_decide_eq_true g2) (of_decide_eq_true g3) (of_decide_eq_true g4) (by rw [hsc]; exact eq_of_beq g8) (by rw [hsc]; exact eq_of_beq g9) (by rw [hsc]; exact eq_of_beq g10) p1' (hw hz) sole_tuple ⟨own i (by simp), own j (by simp), own l (by simp)⟩) hr) hsub
      · cases h
    · cases h
  · cases h
end
end VI
end
section
set_option maxRecDepth 100000
set_option maxHeartbeats 4000000
namespace VI
open PySem PySem.Spec PyProof.Rows L2
section
variable {G : Cst} {cl : Nat → List D → M D} {et : Nat → Str × (Nat → Option Str)} {ars : List Nat} {k : Nat} {X : Cx}
theorem contains_mem {l : List Nat} {i : Nat} (h : l.contains i = true) : i ∈ l := List.contains_iff_mem.mp h
theorem assign_sub {n : Str} {p3 tpos : Pos} {i : Expr} {env : PySem.Env} (h : noSlice i = true) (v : Value) : assign (.Subscript (.Name n p3) i tpos) env v = (do
    let ov ← holding [v] (eval (.Name n p3) env)
    let iv ← holding [v, ov] (eval i env)
    standAt tpos
    holding [v, ov, iv] (setItem ov iv v)
    release [v, ov, iv] []) := by
  cases i <;> first | rfl | cases h
theorem sole_none {e t : Expr} {l : Nat} {env : PySem.Env} (h : noComp e = true) : swapsWithSole [t] e l env = pure false := by
  show swapsWith e (some t) l env = pure false
  exact swaps_none h
mutual
theorem okS_ok : ∀ (st : VI.S) {S : Sg} {Γ : Sc} {lo own' : List Nat} {x : Stmt} {r : Option (List Nat)}, XOkS G cl et ars k Γ X S → (∀ i : Nat, ars[i]? = (G.fns[i]?).map fun p : Str × Nat => p.2) → okS G Γ lo st x = some r → leO own' r → PS X x (tSt (S.w Γ.own) lo own' (exec cl et ars st))
  | .asg t e, S, Γ, lo, own', x, r, o, har, h, hr => by
    unfold okS at h
    split at h
    · exact okAsg_ok o har h hr
    · cases h
  | .par is es, S, Γ, lo, own', x, r, o, har, h, hr => by
    unfold okS at h
    split at h
    · exact okPar_ok o har h hr
    · cases h
  | .setI x i e, S, Γ, lo, own', st, r, o, har, h, hr => by
    unfold okS at h
    split at h
    · rename_i n p3 ix tpos v p
      dsimp only at h
      split at h
      · rename_i hg
        cases h
        have o1 := (o.w (dropL Γ.own (strongE false i ++ strongE true e))).o
        obtain ⟨hg, g6⟩ := and2 hg
        obtain ⟨hg, g5⟩ := and2 hg
        obtain ⟨hg, g4⟩ := and2 hg
        obtain ⟨hg, g3⟩ := and2 hg
        obtain ⟨g1, g2⟩ := and2 hg
        obtain ⟨v1, v2, v3, v4⟩ := var_ok o.o g1
        exact ss_pre (ss_post (ss_setI v1 v2 v3 v4 (contains_mem g4) (okE_ok (et := et) e o1 har g5).1 (okE_ok (et := et) i o1 har g6).1 (sole_none g3) (assign_sub g2)) hr) dropL_sub
      · cases h
    · cases h
  | .setC x i e, S, Γ, lo, own', st, r, o, har, h, hr => by
    unfold okS at h
    split at h
    · rename_i n p3 ix tpos v p
      dsimp only at h
      split at h
      · rename_i hg
        cases h
        have o1 := (o.w (dropL Γ.own (strongE false i ++ strongE true e))).o
        obtain ⟨hg, g6⟩ := and2 hg
        obtain ⟨hg, g5⟩ := and2 hg
        obtain ⟨hg, g4⟩ := and2 hg
        obtain ⟨hg, g3⟩ := and2 hg
        obtain ⟨g1, g2⟩ := and2 hg
        obtain ⟨v1, v2, v3, v4⟩ := var_ok o.o g1
        exact ss_pre (ss_post (ss_setC v1 v2 v3 v4 (own_ok o1 g4) (okE_ok (et := et) e o1 har g5).1 (okE_ok (et := et) i o1 har g6).1 (sole_none g3) (assign_sub g2)) hr) dropL_sub
      · cases h
    · cases h
  | .app x e, S, Γ, lo, own', st, r, o, har, h, hr => by
    unfold okS at h
    split at h
    · rename_i n p3 at_ apos v cpos pos
      dsimp only at h
      split at h
      · rename_i hg
        cases h
        have o1 := (o.w (dropL Γ.own (strongE true e))).o
        obtain ⟨hg, g6⟩ := and2 hg
        obtain ⟨hg, g5⟩ := and2 hg
        obtain ⟨hg, g4⟩ := and2 hg
        obtain ⟨hg, g3⟩ := and2 hg
        obtain ⟨g1, g2⟩ := and2 hg
        have g1 := eq_of_beq g1
        subst g1
        obtain ⟨v1, v2, v3, v4⟩ := var_ok o.o g2
        exact ss_pre (ss_post (ss_app v1 v2 v3 v4 (contains_mem g5) (okE_ok (et := et) e o1 har g6).1 rfl (by rw [starEach_cons g3]; rfl) g4 (starEach_cons g3) rfl) hr) dropL_sub
      · cases h
    · cases h
  | .expr e, S, Γ, lo, own', st, r, o, har, h, hr => by
    unfold okS at h
    split at h
    · dsimp only at h
      split at h
      · rename_i hg
        cases h
        have o1 := (o.w (dropL Γ.own (strongE false e))).o
        obtain ⟨g1, g2⟩ := and2 hg
        exact ss_pre (ss_post (ss_expr (okE_ok (et := et) e o1 har g2).1 (swaps_none g1)) hr) dropL_sub
      · cases h
    · cases h
  | .ite c a b, S, Γ, lo, own', st, r, o, har, h, hr => by
    unfold okS at h
    split at h
    · dsimp only at h
      split at h
      · rename_i hg
        have o1 := o.w (dropL Γ.own (strongE false c))
        split at h
        · rename_i r1 r2 e1 e2
          cases h
          exact ss_pre (ss_if (okE_ok (et := et) c o1.o har hg).2 (okSs_ok a o1 har e1 (join_l hr)) (okSs_ok b o1 har e2 (join_r hr))) dropL_sub
        · cases h
      · cases h
    · cases h
  | .for t it b, S, Γ, lo, own', st, r, o, har, h, hr => by
    unfold okS at h
    split at h
    · rename_i tg iter xs p
      dsimp only at h
      split at h
      · rename_i hg
        have o1 := o.w (dropL Γ.own (strongE true it ++ t.slots ++ goneSs Γ.mtd b))
        obtain ⟨hg, g0⟩ := and2 hg
        have g0 : Γ.mode = 0 := eq_of_beq g0
        obtain ⟨hg, g3⟩ := and2 hg
        obtain ⟨g1, g2⟩ := and2 hg
        split at h
        · rename_i r1 e1
          split at h
          · rename_i hl
            cases h
            obtain ⟨t1, t2⟩ := okT_ok o1.o g1
            have hit : PI X tg iter (tI (S.w (dropL Γ.own (strongE true it ++ t.slots ++ goneSs Γ.mtd b))) true fun env => M.bind (evalE cl et ars it env) walkD) := by
              rw [Bool.or_eq_true] at g3
              rcases g3 with g3 | g3
              · exact okR_ok it o1.o har g3
              · exact si_seq o1.o.hK (okE_ok it o1.o har g3).1
            have rr := ss_pre (lo := lo) (ss_post (ss_for (pos := p) (fb := execs cl et ars b) (o.po g0) (o.o.calm g0) hit t1 (okSs_ok b o1 har e1 (leB_ok hl)) t2 (folded_none g2)) hr) dropL_sub
            refine PS.weak rr fun Ds σ H ⟨c, w, at_, R, q⟩ => ⟨c, w, at_, R, ?_⟩
            have e2 : (M.bind (M.bind (evalE cl et ars it c.env) walkD) fun xs => kFor (execs cl et ars b) t c.env xs) = exec cl et ars (.for t it b) c.env := by
              rw [M.bind_assoc]
              rfl
            show WpS (S.w Γ.own) lo own' c H Ds ((M.bind (M.bind (evalE cl et ars it c.env) walkD) fun xs => kFor (execs cl et ars b) t c.env xs) w)
            rw [e2]
            exact q
          · cases h
        · cases h
      · cases h
    · cases h
  | .while c b, S, Γ, lo, own', st, r, o, har, h, hr => by
    unfold okS at h
    split at h
    · rename_i t xs p
      dsimp only at h
      split at h
      · rename_i hg
        have o1 := o.w (dropL Γ.own (strongE false c ++ goneSs Γ.mtd b))
        obtain ⟨hg, g0⟩ := and2 hg
        have g0 : Γ.mode = 0 := eq_of_beq g0
        split at h
        · rename_i r1 e1
          split at h
          · rename_i hl
            cases h
            exact ss_pre (ss_post (ss_while (pos := p) (fb := execs cl et ars b) (o.po g0) (okE_ok (et := et) c o1.o har hg).2 (okSs_ok b o1 har e1 (leB_ok hl))) hr) dropL_sub
          · cases h
        · cases h
      · cases h
    · cases h
  | .ret e, S, Γ, lo, own', st, r, o, har, h, hr => by
    unfold okS at h
    split at h
    · split at h
      · rename_i hg
        exact ss_pre (ss_ret (okE_ok (et := et) e (o.w (dropL Γ.own (strongE true e))).o har hg).1) dropL_sub
      · cases h
    · cases h
  | .retN, S, Γ, lo, own', st, r, o, har, h, hr => by
    unfold okS at h
    split at h
    · exact ss_retN
    · cases h
  | .raise c, S, Γ, lo, own', st, r, o, har, h, hr => by
    unfold okS at h
    split at h
    · rename_i n p m j p2 p3 pos
      split at h
      · rename_i hg
        obtain ⟨hg, g0⟩ := and2 hg
        have g0 : Γ.mode = 0 := eq_of_beq g0
        obtain ⟨g1, g2⟩ := and2 hg
        obtain ⟨a1, a2, a3⟩ := glb_ok o.o g1
        obtain ⟨m1, m2, m3, B, newId, initId, bmB, F, q⟩ := o.cls c n (eq_of_beq g2)
        exact ss_raise (newId := newId) (initId := initId) (B := B) (bmB := bmB) (o.o.calm g0) (o.takes g0) (L2N.pmk_own F q m1 m2 m3 a1 a2)
      · cases h
    · cases h
  | .brk, S, Γ, lo, own', st, r, o, har, h, hr => by
    unfold okS at h
    split at h
    · split at h
      · rename_i hg
        exact ss_pre (own1 := lo) (ss_brk fun i => Iff.rfl) fun i hi => contains_mem (List.all_eq_true.mp hg i hi)
      · cases h
    · cases h
  | .cont, S, Γ, lo, own', st, r, o, har, h, hr => by
    unfold okS at h
    split at h
    · split at h
      · rename_i hg
        exact ss_pre (own1 := lo) (ss_cont fun i => Iff.rfl) fun i hi => contains_mem (List.all_eq_true.mp hg i hi)
      · cases h
    · cases h
  | .pass, S, Γ, lo, own', st, r, o, har, h, hr => by
    unfold okS at h
    split at h
    · cases h
      exact ss_post ss_pass hr
    · cases h
  | .mkcup _ _, S, Γ, lo, own', st, r, o, har, h, hr => by cases h
theorem okSs_ok : ∀ (ss : Ss) {S : Sg} {Γ : Sc} {lo own' : List Nat} {xs : List Stmt} {r : Option (List Nat)}, XOkS G cl et ars k Γ X S → (∀ i : Nat, ars[i]? = (G.fns[i]?).map fun p : Str × Nat => p.2) → okSs G Γ lo ss xs = some r → leO own' r → PSs X xs (tSt (S.w Γ.own) lo own' (execs cl et ars ss))
  | .nil, S, Γ, lo, own', xs, r, o, har, h, hr => by
    cases xs with
    | nil =>
      cases h
      exact sss_post sss_nil hr
    | cons _ _ => cases h
  | .cons s ss, S, Γ, lo, own', xs, r, o, har, h, hr => by
    cases xs with
    | nil => cases h
    | cons x xs =>
      unfold okSs at h
      dsimp only at h
      split at h
      · rename_i own e1
        exact sss_cons (okS_ok s (own' := own) o har e1 fun i hi => hi) (okSs_ok ss (o.w own) har h hr)
      · rename_i e1
        exact sss_cons (okS_ok s (own' := []) o har e1 trivial) (okSs_ok ss (o.w []) har h hr)
      · cases h
end
end
end VI
end
section
set_option maxRecDepth 100000
set_option maxHeartbeats 4000000
namespace VI
open PySem PySem.Spec PyProof.Rows L2
/-! ### defs -/
mutual
def mtdS : VI.S → List Nat
  | .app x _ => [x]
  | .setI x _ _ => [x]
  | .ite _ a b => mtdSs a ++ mtdSs b
  | .for _ _ b => mtdSs b
  | .while _ b => mtdSs b
  | _ => []
def mtdSs : Ss → List Nat
  | .nil => []
  | .cons s ss => mtdS s ++ mtdSs ss
end
def nodupB : List Str → Bool
  | [] => true
  | x :: xs => !xs.contains x && nodupB xs
theorem nodupB_ok : ∀ {l : List Str}, nodupB l = true → l.Nodup
  | [], _ => List.nodup_nil
  | x :: xs, h => by
    obtain ⟨h1, h2⟩ := and2 h
    refine List.nodup_cons.mpr ⟨fun z => ?_, nodupB_ok h2⟩
    have := not1 h1
    rw [List.contains_iff_mem.mpr z] at this
    cases this
def okScope (d : DefT) : Bool :=
  d.scope.kind == .function && !d.scope.isCoroutine && !d.scope.isGenerator && nodupB d.N && (d.N.take d.ps.length == d.ps) &&
    d.ps.all (fun x => d.scope.names.lookup x == some .local || d.scope.names.lookup x == some .cell) && d.scope.names.all (fun y => y.2 != .free)
theorem okScope_ok {d : DefT} (h : okScope d = true) : FnScope d.N d.ps d.scope := by
  obtain ⟨h, h7⟩ := and2 h
  obtain ⟨h, h6⟩ := and2 h
  obtain ⟨h, h5⟩ := and2 h
  obtain ⟨h, h4⟩ := and2 h
  obtain ⟨h, h3⟩ := and2 h
  obtain ⟨h1, h2⟩ := and2 h
  refine ⟨eq_of_beq h1, not1 h2, not1 h3, nodupB_ok h4, eq_of_beq h5, fun x hx => ?_, fun y hy e => ?_⟩
  · have := List.all_eq_true.mp h6 x hx
    rw [Bool.or_eq_true] at this
    exact this.imp eq_of_beq eq_of_beq
  · have := List.all_eq_true.mp h7 y hy
    rw [e] at this
    cases this
def okFn (G : Cst) (d : DefT) (fn : Fn) : Bool :=
  okScope d && (d.ps.length == fn.ar) && (d.N.length == fn.slots) && (okSs G ⟨d.N, d.scope, [], tt, mtdSs fn.body, 0, d.lam⟩ [] fn.body d.body).isSome
def okErr (G : Cst) (d : DefT) (t : ErrT) : Bool :=
  okScope d && (d.N.length == t.slots) && (match d.ps, d.body with
    | [a], [.Try [.Expr (.Call (.Name a2 _) [] [] _) _] [.ExceptHandler (some (.Name x _)) (some en) (b0 :: suite) _] [] [] _, .Return (some (.Constant (.str z) _ _)) _] =>
      a2 == a && nodB a && visB d.scope a && (d.N[0]? == some a) && glbB ⟨d.N, d.scope, [], tt, [], 0, false⟩ x && (d.N[t.es]? == some en) && locB d.scope en && decide (t.es ≠ 0) && z == t.none &&
        (List.range G.cls.length).any (fun c => G.cls[c]? == some x && G.subs[c]? == some (List.range G.cls.length)) && (okSs G ⟨d.N, d.scope, [], tt, mtdSs t.suite, 1, false⟩ [] t.suite (b0 :: suite)).isSome
    | _, _ => false)
/-- what stands of the text -/
structure TxtOk (G : Cst) (PR : Prog) (K : PySem.W.Frag) (mg : Str → Option Value) (g : Gb) : Prop where
  hK : K = g.K
  con : ∀ p ∈ G.con, ∃ u v, mg p.1 = some u ∧ RelV v u ∧ ∀ cup bad H, Rep g cup bad H p.2 v
  free : ∀ x ∈ G.free, mg x = none
  gcd : G.gcd = true → mg "gcd" = some (.builtin "math.gcd")
  cls : ∀ c n, G.cls[c]? = some n → mg n = some (.ref (g.ca c)) ∧ PySem.W.keepIn K (.ref (g.ca c)) = true ∧ PySem.W.subIn K (.ref (g.ca c)) (.type "BaseException") = some true ∧ PySem.W.typeIn K (.ref (g.ca c)) = some (.type "type") ∧ ∃ B newId initId bmB, PySem.ExcBaseFacts B newId initId bmB ∧ PySem.W.excIn K (g.ca c) bmB newId = true
  fns : ∀ i x n, G.fns[i]? = some (x, n) → mg x = some (.ref (g.fa i)) ∧ ∃ (d : DefT) (fd : FuncData) (fn : Fn), FunD K x x d.params d.body d.scope [] [] (g.fa i) fd ∧ Binds K fd d.ps [] ∧ PR.fns[i]? = some fn ∧ fn.ar = n ∧ okFn G d fn = true ∧ (d.lam = true → G.lams.contains x = true)
  subs : ∀ c ks k0, c < G.cls.length → G.subs[c]? = some ks → k0 < G.cls.length → PySem.W.kitOne K (.ref (g.ca k0)) (.ref (g.ca c)) = some (ks.contains k0)
  exm : ∀ c ks k0, c < G.cls.length → G.subs[c]? = some ks → k0 < G.cls.length → PySem.W.exmOne K (.ref (g.ca k0)) (.ref (g.ca c)) = some (ks.contains k0)
  excC : ∀ k0, k0 < G.cls.length → ExcC K (g.ca k0)
  gex : g.ex = none
  ncls : PR.ncls = G.cls.length
  errs : ∀ (gi : Nat) (n : Str), G.errs[gi]? = some n → ∃ (d : DefT) (fd : FuncData) (ge : Addr) (t : ErrT) (a : Str), mg n = some (.ref ge) ∧ FunD K n n d.params d.body d.scope [] [] ge fd ∧ Binds K fd d.ps [] ∧ PR.ets[gi]? = some t ∧ d.ps = [a] ∧ okErr G d t = true
  len : ∀ i : Nat, (PR.fns.map Fn.ar)[i]? = (G.fns[i]?).map fun p : Str × Nat => p.2
end VI
end
section
set_option maxRecDepth 100000
set_option maxHeartbeats 4000000
namespace VI
open PySem PySem.Spec PyProof.Rows L2 LamX L2H HotX
/-! ### a def that calls what it gets and catches -/
mutual
/-- values that stand for no exception stand for what they stood -/
theorem Rep.ex {g : Gb} (h0 : g.ex = none) {e : Option (Nat × Addr)} {cup : Option Addr} {bad : Addr → Prop} {H : Hp} : ∀ {d : D} {v : V}, Rep g cup bad H d v → Rep { g with ex := e } cup bad H d v
  | .non, _, h => h
  | .bl _, _, h => h
  | .int _, _, h => h
  | .str _, _, h => h
  | .fn _, _, h => h
  | .cup, _, h => h
  | .exn k, _, h => by
    obtain ⟨a, h1, _⟩ := h
    rw [h0] at h1; cases h1
  | .tup ds, v, h => by
    obtain ⟨a, vs, h1, h2, h3⟩ := h
    exact ⟨a, vs, h1, h2, Reps.ex h0 h3⟩
  | .lst ds, v, h => by
    obtain ⟨a, vs, h1, h2, h3, h4⟩ := h
    exact ⟨a, vs, h1, h2, h3, Reps.ex h0 h4⟩
theorem Reps.ex {g : Gb} (h0 : g.ex = none) {e : Option (Nat × Addr)} {cup : Option Addr} {bad : Addr → Prop} {H : Hp} : ∀ {ds : List D} {vs : List V}, Reps g cup bad H ds vs → Reps { g with ex := e } cup bad H ds vs
  | [], _, h => h
  | d :: ds, vs, h => by
    obtain ⟨v, ws, h1, h2, h3⟩ := h
    exact ⟨v, ws, h1, Rep.ex h0 h2, Reps.ex h0 h3⟩
end
section
variable {G : Cst} {PR : Prog} {K : PySem.W.Frag} {mg : Str → Option Value} {g : Gb}
theorem takesN0 {X : Cx} : L2N.Takes X (fun _ _ _ _ => False) := fun _ _ x => by
  obtain ⟨_, _, _, _, _, _, _, _, _, _, _, _, _, _, _, _, z⟩ := x
  exact z.elim
/-- a suite's own level -/
theorem suite_ok {X : Cx} {a : Addr} {oe : Obj} {pn : List (Addr × Obj)} {k0 : Nat} {T : List (Addr × Str)} {N : List Str} {scope : Scope} {ms : List Nat} (t : TxtOk G PR K mg g) (hX : X.K = K) (hm : X.mg = mg) (hN : X.N = N) (nd : N.Nodup) (hs : X.env.scope = scope) (hk : scope.kind = .function) (hf : ∀ x, X.fn x = true) (hu : X.A.units + 65 < cLine)
    (hz : L2N.Zn (.ref (g.ca k0)) none oe) (hd : ∃ vs, oe.data = .fields vs) (h0 : k0 < G.cls.length) : XOkS G (run PR 0) noEt (PR.fns.map Fn.ar) 0 ⟨N, scope, [], tt, ms, 1, false⟩ (X.suite a ((a, oe) :: pn)) ⟨g.at k0 a, T, none, [], fun _ _ _ => False⟩ := by
  have gK : g.K = K := t.hK.symm
  exact {
    o := {
      hK := hX.trans t.hK
      hN := hN
      nd := by
        show X.N.Nodup
        rw [hN]; exact nd
      sc := hs
      kind := hk
      calm := fun h => by cases h
      own := rfl
      fnl := fun x _ => hf x
      fnf := fun i x n h => by
        obtain ⟨m, d, fd, fn, F, b, e1, e2, e3, _⟩ := t.fns i x n h
        refine ⟨by show X.mg x = _; rw [hm]; exact m, ⟨fd, d.ps, ⟨fun vs H Q E z => ?_, fun A outer s H args us vs Q E _ _ _ _ z => ?_⟩, ?_, ?_⟩⟩
        · obtain ⟨_, b0, ds, w, _, _, _, _, _, q⟩ := z
          exact q.elim
        · obtain ⟨_, b0, ds, w, _, _, _, _, _, q⟩ := z
          exact q.elim
        · show PySem.W.keepIn X.K _ = true
          rw [hX]; exact F.kp
        · show L2.Binds X.K fd d.ps []
          rw [hX]; exact b
      con := fun p hp => by
        obtain ⟨u, v, m1, m2, m3⟩ := t.con p hp
        refine ⟨u, v, by show X.mg p.1 = _; rw [hm]; exact m1, m2, fun cup bad H => ?_⟩
        exact Rep.ex t.gex (m3 cup bad H)
      free := fun x hx => by
        show X.mg x = none
        rw [hm]; exact t.free x hx
      gcd := fun h => by
        show X.mg "gcd" = _
        rw [hm]; exact t.gcd h
      un := hu
      room := fun h => by cases h
      pass := fun h => by cases h
      hot := fun _ => by
        obtain ⟨vs, hv⟩ := hd
        refine ⟨⟨(a, oe), ⟨rfl, vs, hv, hz.2.2 vs hv⟩, List.mem_cons_self⟩, k0, a, rfl, ?_, h0⟩
        have c := call_isE (X := X) (pn := pn) (a := a) (C := by rw [hX]; exact t.excC k0 h0) hz.zc ⟨vs, hv⟩
        exact c
      hotk := fun h => by cases h
      mode := by
        show 1 ≤ 2
        omega
      lamx := fun h => by cases h
      errF := fun h => by cases h
      clsM := fun c n h => by
        show X.mg n = _
        rw [hm]; exact (t.cls c n h).1
      subs := fun c ks k1 h1 h2 h3 => by
        show PySem.W.kitOne X.K _ _ = _
        rw [hX]; exact t.subs c ks k1 h1 h2 h3 }
    takes := fun h => by cases h
    po := fun h => by cases h
    cls := fun c n h => by
      obtain ⟨m1, m2, m3, m4, B, newId, initId, bmB, F, q⟩ := t.cls c n h
      exact ⟨by show X.mg n = _; rw [hm]; exact m1, by show PySem.W.keepIn X.K _ = true; rw [hX]; exact m2, raises_own (by show PySem.W.subIn X.K _ _ = _; rw [hX]; exact m3) (by show PySem.W.typeIn X.K _ = _; rw [hX]; exact m4), B, newId, initId, bmB, F, by show PySem.W.excIn X.K _ _ _ = true; rw [hX]; exact q⟩ }
theorem wpS_ends {S : Sg} {lo own : List Nat} {c : Fr} {H : Hp} {D1 D2 : Ends} {r : VI.R F} (h : WpS S lo own c H D1 r) (h1 : ∀ σ G, D1.nx σ G → D2.nx σ G) (h2 : ∀ σ G, D1.bk σ G → D2.bk σ G) (h3 : ∀ σ G, D1.ct σ G → D2.ct σ G) (h4 : ∀ v G, D1.rt v G → D2.rt v G) : WpS S lo own c H D2 r := by
  cases r with
  | ok fl w =>
    cases fl with
    | nx env => exact fun c' H' t e s R => h1 _ _ (h c' H' t e s R)
    | brk env => exact fun c' H' t e s R => h2 _ _ (h c' H' t e s R)
    | cont env => exact fun c' H' t e s R => h3 _ _ (h c' H' t e s R)
    | ret d => exact fun v H' k cu tb rr => h4 _ _ (h v H' k cu tb rr)
  | ex k w => exact h
  | no => exact h
theorem err_gives {X : Cx} {n a q : Str} {d : DefT} {t : ErrT} {ge : Addr} {cdg : Value} {T : List (Addr × Str)} (tx : TxtOk G PR K mg g) (hX : X.K = K) (hm : X.mg = mg) (h : okErr G d t = true) (ha : d.ps = [a]) (hu : X.A.units + 100 < cLine) :
    GivesN X d.N n d.scope ge cdg d.body a q (TTe g T G.cls.length d.N (PR.fns.map Fn.ar) t) := by
  intro f c' s H Q tl act hc hT
  obtain ⟨h12, h3⟩ := and2 h
  obtain ⟨h1, h2⟩ := and2 h12
  have SC := okScope_ok h1
  split at h3
  · rename_i a' a2 p1 p2 p3 x p4 en b0 suite p5 p6 z j p7 p8 eps ebody
    obtain ⟨h3, g11⟩ := and2 h3
    obtain ⟨h3, g10⟩ := and2 h3
    obtain ⟨h3, g9⟩ := and2 h3
    obtain ⟨h3, g8⟩ := and2 h3
    obtain ⟨h3, g7⟩ := and2 h3
    obtain ⟨h3, g6⟩ := and2 h3
    obtain ⟨h3, g5⟩ := and2 h3
    obtain ⟨h3, g4⟩ := and2 h3
    obtain ⟨h3, g3⟩ := and2 h3
    obtain ⟨g1, g2⟩ := and2 h3
    have g1 := eq_of_beq g1
    subst g1
    have ea : a2 = a := by
      rw [ha] at eps
      cases eps
      rfl
    subst ea
    obtain ⟨cb, hcb, hcc⟩ := List.any_eq_true.mp g10
    obtain ⟨hc1, hc2⟩ := and2 hcc
    have hc1 : G.cls[cb]? = some x := eq_of_beq hc1
    have hc2 : G.subs[cb]? = some (List.range G.cls.length) := eq_of_beq hc2
    obtain ⟨m1, _⟩ := tx.cls cb x hc1
    obtain ⟨r, hr⟩ := Option.isSome_iff_exists.mp g11
    have glx := and2 g5
    have hN : d.N[t.es]? = some en := eq_of_beq g6
    have hne : t.es ≠ 0 := of_decide_eq_true g8
    have hz : z = t.none := eq_of_beq g9
    have N0 : d.N[0]? = some a2 := eq_of_beq g4
    let XX : Cx := (cxOf C8.CX0 X.prog X.w X.K X.mg X.base d.N n d.scope ge cdg X.A X.stack s H C8.E0).nox
    have names : Names XX x (.ref (g.ca cb)) := ⟨eq_of_beq glx.1, (nod glx.2).1, .inl (by show X.mg x = _; rw [hm]; exact m1)⟩
    have units : XX.A.units + 65 < cLine := by
      show X.A.units + 3 + 65 < cLine
      omega
    let TSu : Addr → Value → Option Addr → TS := fun e cls dd Ds σ M => ∃ k, k < G.cls.length ∧ cls = .ref (g.ca k) ∧ dd = none ∧ tSt ⟨g.at k e, T, none, [], fun _ _ _ => False⟩ [] [] (execs (fun _ _ => VI.M.no) noEt (PR.fns.map Fn.ar) t.suite) Ds σ M
    let TBo : WX → TS := fun W Ds σ M => ∃ E : XK, (∀ cls dd M', E cls dd M' → W cls dd σ M') ∧ σ[0]? = some (some (.ref f)) ∧ M c' = some (CodeO c' q) ∧ tl E M fun _ M' => Ds.nx σ M'
    have body : ∀ (W : WX) (pn : List (Addr × Obj)) (xe : Value → Shared → Prop), L2N.Takes (XX.tr pn xe) W → PassesOwn (model XX.prog XX.w) XX.A XX.env xe → PSs (XX.tr pn xe) [.Expr (.Call (.Name a2 p1) [] [] p2) p3] (TBo W) := fun W pn xe tk _ =>
      ⟨fun pz sz σ M Ds I ⟨E, hW, q1, q2, q3⟩ => (pss_one (ps_expr (act W pn xe E p1 p2 tk) rfl)).run pz sz σ M Ds I ⟨q1, q2, hW, q3⟩⟩
    have suiteOk : ∀ (e : Addr) (oe : Obj) (cls : Value) (dd : Option Addr) (pn : List (Addr × Obj)), L2N.Zn cls dd oe → (∃ vs, oe.data = .fields vs) → PSs (XX.suite e ((e, oe) :: pn)) (b0 :: suite) (TSu e cls dd) := fun e oe cls dd pn zn hd =>
      ⟨fun pz sz σ M Ds I ⟨k, k1, k2, k3, qq⟩ => by
        subst k2
        subst k3
        have XS := suite_ok (a := e) (N := d.N) (scope := d.scope) (T := T) (ms := mtdSs t.suite) (pn := pn) (X := XX) tx hX hm rfl SC.nd rfl SC.kind (fun _ => rfl) units zn hd k1
        exact (okSs_ok (et := noEt) (ars := PR.fns.map Fn.ar) t.suite (own' := []) XS tx.len hr (by cases r <;> first | trivial | exact fun i hi => by cases hi)).run pz sz σ M Ds I qq⟩
    have try_ : PS XX (.Try [.Expr (.Call (.Name a2 p1) [] [] p2) p3] [.ExceptHandler (some (.Name x p4)) (some en) (b0 :: suite) p5] [] [] p6) fun Ds σ M => TBo (wAs XX.K (.ref (g.ca cb)) t.es TSu (fun _ _ _ _ => False) Ds) Ds σ M :=
      L2N.ps_try_as rfl rfl SC.nd hN (eq_of_beq g7) names takesN0 body suiteOk
    rw [ebody]
    refine ⟨_, pss_cons try_ (pss_one (ps_ret pe_str)), ?_⟩
    have lN : 0 < d.N.length := (List.getElem?_eq_some_iff.mp N0).1
    refine ⟨fun cls dd M' => ErrQ g T G.cls.length d.N (PR.fns.map Fn.ar) t cls dd M' Q, fun cls dd M' eq => ?_, rfl, hc, ?_⟩
    · obtain ⟨k, k1, k2, k3, qq⟩ := eq
      subst k2
      refine ⟨true, ?_, fun _ e he => ⟨k, k1, rfl, k3, ?_⟩, fun z => by cases z⟩
      · have := tx.exm cb _ k (List.getElem?_eq_some_iff.mp hc1).1 hc2 k1
        rw [List.contains_iff_mem.mpr (List.mem_range.mpr k1)] at this
        show PySem.W.exmOne X.K _ _ = some true
        rw [hX]; exact this
      · obtain ⟨c, w, at_, R, qw⟩ := qq e f he
        exact ⟨c, w, at_, R, wpS_ends qw (fun _ _ z => z.elim) (fun _ _ z => z.elim) (fun _ _ z => z.elim) fun _ _ z => z⟩
    · have hT : tl (fun cls dd H' => ErrQ g T G.cls.length d.N (PR.fns.map Fn.ar) t cls dd H' Q) H fun _ H' => Q (.str t.none) H' := hT
      rw [← hz] at hT
      exact hT
  · cases h3
end
end VI
end
section
set_option maxRecDepth 100000
set_option maxHeartbeats 4000000
namespace VI
open PySem PySem.Spec PyProof.Rows L2
theorem okErr_facts {G : Cst} {d : DefT} {t : ErrT} {a : Str} (h : okErr G d t = true) (ha : d.ps = [a]) : d.N[0]? = some a ∧ Vis d.scope a ∧ (a == ("__debug__" : Str)) = false ∧ (a == ("__classdict__" : Str)) = false ∧ t.es < d.N.length := by
  obtain ⟨_, h3⟩ := and2 h
  split at h3
  · rename_i a' a2 p1 p2 p3 x p4 en b0 suite p5 p6 z j p7 p8 eps ebody
    obtain ⟨h3, g11⟩ := and2 h3
    obtain ⟨h3, g10⟩ := and2 h3
    obtain ⟨h3, g9⟩ := and2 h3
    obtain ⟨h3, g8⟩ := and2 h3
    obtain ⟨h3, g7⟩ := and2 h3
    obtain ⟨h3, g6⟩ := and2 h3
    obtain ⟨h3, g5⟩ := and2 h3
    obtain ⟨h3, g4⟩ := and2 h3
    obtain ⟨h3, g3⟩ := and2 h3
    obtain ⟨g1, g2⟩ := and2 h3
    rw [ha] at eps
    cases eps
    exact ⟨eq_of_beq g4, vis_ok g3, (nod g2).1, (nod g2).2.1, (List.getElem?_eq_some_iff.mp (eq_of_beq g6)).1⟩
  · cases h3
section
variable {G : Cst} {PR : Prog} {P : Program} {w : World} {K : PySem.W.Frag} {mg : Str → Option Value} {base : Heap} {g : Gb}
/-- a def's own level in its context -/
theorem ctx_ok {cl : Nat → List D → M D} {k : Nat} {T : List (Addr × Str)} {cup : Option Addr} {N : List Str} {ms : List Nat} {lam : Bool} {qual : Str} {scope : Scope} {f : Addr} {cdv : Value} {A : Around} {outer : List PySem.Env} {s : Shared} {H : Hp} {E : XK} (t : TxtOk G PR K mg g)
    (hcl : ∀ i x n, G.fns[i]? = some (x, n) → Callee (cxOf (L2N.CX P w) P w K mg base N qual scope f cdv A outer s H E) ⟨g, T, cup, [], E⟩ k (cl i) n (g.fa i))
    (nd : N.Nodup) (hk : scope.kind = .function) (hlam : lam = true → ∃ c Pt, cdv = .ref c ∧ LamX.TabB base mg c Pt ∧ (Pt, (qual ++ ".<locals>.") ++ "<lambda>") ∈ T ∧ ∀ p ∈ T, p.1 = Pt → p.2 = (qual ++ ".<locals>.") ++ "<lambda>") (hr : Room (k + 2) (A.deeper (envOfC qual scope s.heap.objs.size f cdv))) :
    XOkS G cl (etOf PR) (PR.fns.map Fn.ar) k ⟨N, scope, [], tt, ms, 0, lam⟩ (cxOf (L2N.CX P w) P w K mg base N qual scope f cdv A outer s H E) ⟨g, T, cup, [], E⟩ := by
  have tk : L2N.Takes (cxOf (L2N.CX P w) P w K mg base N qual scope f cdv A outer s H E) (fun cls d _ H => E cls d H) := L2N.takes_of rfl rfl rfl rfl
  exact {
    o := {
      hK := t.hK
      hN := rfl
      nd := nd
      sc := rfl
      kind := hk
      calm := fun _ => rfl
      own := rfl
      fnl := fun _ _ => rfl
      fnf := fun i x n h => ⟨(t.fns i x n h).1, hcl i x n h⟩
      con := t.con
      free := t.free
      gcd := t.gcd
      un := by
        have := hr.un
        show (A.deeper (envOfC qual scope s.heap.objs.size f cdv)).units + 65 < cLine
        omega
      room := fun _ => hr.mono (by omega)
      pass := fun _ => L2N.passes_call tk fun _ _ _ _ h => h
      hot := fun h => by cases h
      hotk := fun h => by cases h
      mode := Nat.zero_le _
      lamx := fun h => ⟨hr, hlam h⟩
      errF := fun _ gi n h => by
        obtain ⟨d, fd, ge, t', a, m, F, b, e1, e2, e3⟩ := t.errs gi n h
        obtain ⟨oc, od, dV, kV, doc, pm, an, cdv', ct, osl, rfl, lk, hcd, _, _⟩ := F.ex
        rw [e2] at b
        have SC := okScope_ok (and2 (and2 e3).1).1
        rw [e2] at SC
        have hsl : d.N.length = t'.slots := eq_of_beq (and2 (and2 e3).1).2
        obtain ⟨f1, f2, f3, f4, f5⟩ := okErr_facts e3 e2
        have hu : (A.deeper (envOfC qual scope s.heap.objs.size f cdv)).units + 100 < cLine := by
          have := hr.un
          omega
        refine ⟨t', ge, d.params, d.body, d.scope, dV, kV, doc, pm, cdv', ct, oc, an, od, osl, d.N, a, G.cls.length, m, F.kp, lk, hcd, b, SC, f1, f2, f3, f4, fun q => err_gives t rfl rfl e3 e2 hu, ?_, by rw [← hsl]; exact f5, hsl⟩
        unfold etOf
        rw [e1, t.ncls]
      clsM := fun c n h => (t.cls c n h).1
      subs := t.subs }
    takes := fun _ => tk
    po := fun _ => passes_of rfl
    cls := fun c n h => by
      obtain ⟨m1, m2, m3, m4, B, newId, initId, bmB, F, q⟩ := t.cls c n h
      exact ⟨m1, m2, raises_own m3 m4, B, newId, initId, bmB, F, q⟩ }
theorem funD_ok {CX : CXT} {x qual : Str} {params : Arguments} {body : List Stmt} {scope : Scope} {dvs : List V} {kws : List (Str × V)} {f : Addr} {fd : FuncData} {N ps : List Str} {k : Nat} {sp : Sp} (F : FunD K x qual params body scope dvs kws f fd) (S : FnScope N ps scope) (len : ∀ vs H Q E, sp vs H Q E → vs.length = ps.length)
    (hbody : ∀ (cdv : Value) (A : Around) (outer : List PySem.Env) (s : Shared) (H : Hp) (vs : List V) (Q : VK) (E : XK), codeOf K f = cdv → Room k (A.deeper (envOfC qual scope s.heap.objs.size f cdv)) → sp vs H Q E →
      ∃ t, PSs (cxOf CX P w K mg base N qual scope f cdv A outer s H E) body t ∧ t { nx := fun _ H' => Q .non H', rt := Q } (L2.start N vs) H) : FnOk P w K mg base CX (k + 1) f fd ps sp := by
  obtain ⟨oc, od, dV, kV, doc, pm, an, cdv, ct, osl, rfl, lk, hcd, _, _⟩ := F.ex
  refine fn_of lk hcd S len fun A outer s H vs Q E hr hs => hbody cdv A outer s H vs Q E ?_ hr hs
  unfold codeOf
  rw [lk]
/-- the tables of the lambdas -/
def LamOk (K : PySem.W.Frag) (mg : Str → Option Value) (base : Heap) (T : List (Addr × Str)) (x : Str) (f : Addr) : Prop := ∃ c Pt, codeOf K f = .ref c ∧ LamX.TabB base mg c Pt ∧ (Pt, (x ++ ".<locals>.") ++ "<lambda>") ∈ T ∧ ∀ p ∈ T, p.1 = Pt → p.2 = (x ++ ".<locals>.") ++ "<lambda>"
theorem start_rel {T : List (Addr × Str)} {cup : Option Addr} {b0 : Addr → Prop} {ds wc : List D} {vs : List V} {N : List Str} {H : Hp} {slots : Nat} (hl : N.length = slots) (h1 : ∀ a, cup = some a → b0 a) (h2 : ∀ a, b0 a → ∃ xs, H a = some (.lst xs)) (h3 : CupOk g cup b0 wc H) (h4 : LamX.Tabs T H) (h5 : Reps g cup b0 H ds vs) :
    Rel g ⟨T, cup, b0, H, [], ds.map some ++ List.replicate (slots - ds.length) none, L2.start N vs⟩ wc H := by
  have hb : ∀ a, Fr.bad ⟨T, cup, b0, H, [], ds.map some ++ List.replicate (slots - ds.length) none, L2.start N vs⟩ a ↔ b0 a := fun a => by
    unfold Fr.bad
    simp
  have A : ∀ bad, Agr bad H H := fun _ _ _ h _ _ => h
  have h5' : Reps g cup (Fr.bad ⟨T, cup, b0, H, [], ds.map some ++ List.replicate (slots - ds.length) none, L2.start N vs⟩) H ds vs := Reps.mono (A _) (fun a z => .inl ((hb a).mp z)) (fun _ => id) h5
  exact {
    len := by
      have := h5.length
      show (ds.map some ++ List.replicate (slots - ds.length) none).length = (L2.start N vs).length
      unfold L2.start
      simp [this, hl]
    ground := Keep.refl
    lists := fun a z => h2 a ((hb a).mp z)
    cupB := h1
    new := fun p hp => by cases hp
    cupOk := fun a z => by
      obtain ⟨us, e, q⟩ := h3 a z
      exact ⟨us, e, Reps.mono (A _) (fun a z => .inl ((hb a).mp z)) (fun _ => id) q⟩
    ndS := List.nodup_nil
    ndA := List.nodup_nil
    val := fun i d e => by
      have e : (ds.map some ++ List.replicate (slots - ds.length) none)[i]? = some (some d) := e
      have hlen := h5.length
      by_cases hi : i < ds.length
      · rw [List.getElem?_append_left (by simpa using hi), List.getElem?_map, Option.map_eq_some_iff] at e
        obtain ⟨d', e1, e2⟩ := e
        cases e2
        obtain ⟨v, e3, e4⟩ := h5'.get e1
        refine ⟨v, ?_, .inr ⟨by simp, e4⟩⟩
        show (L2.start N vs)[i]? = some (some v)
        unfold L2.start
        rw [List.getElem?_append_left (by rw [List.length_map]; omega), List.getElem?_map, e3]
        rfl
      · rw [List.getElem?_append_right (by simpa using hi)] at e
        rw [List.getElem?_replicate] at e
        split at e <;> cases e
    tabs := h4 }
def EndOk (g : Gb) (T : List (Addr × Str)) (cup : Option Addr) (b0 : Addr → Prop) (H : Hp) (Q : VK) (EX : XK) : VI.R D → Prop
  | .ok d w' => ∀ H' v, Keep cup H H' → CupOk g cup b0 w' H' → LamX.Tabs T H' → Rep g cup b0 H' d v → Q v H'
  | .ex k w' => ∀ H', Keep cup H H' → CupOk g cup b0 w' H' → LamX.Tabs T H' → EX (.ref (g.ca k)) none H'
  | .no => False
/-- a body that ends by its value -/
theorem body_end {EX : XK} {T : List (Addr × Str)} {cup : Option Addr} {b0 : Addr → Prop} {H : Hp} {c : Fr} {Q : VK} {m : M F} {wc : List D} (hT : c.T = T) (hcup : c.cup = cup) (hb0 : c.b0 = b0) (hH : c.H0 = H)
    (q : EndOk g T cup b0 H Q EX (M.bind m endOf wc)) : WpS ⟨g, T, cup, [], EX⟩ [] [] c H { nx := fun _ H' => Q .non H', rt := Q } (m wc) := by
  subst hT; subst hcup; subst hb0; subst hH
  unfold M.bind at q
  cases e : m wc with
  | ok fl w' =>
    rw [e] at q
    cases fl with
    | nx env =>
      intro c' H' t e s R
      refine q H' .non ?_ ?_ ?_ rfl
      · have := R.ground
        rw [t.cup, t.H0] at this
        exact this
      · have := R.cup0
        rw [t.cup, t.b0] at this
        exact this
      · have := R.tabs
        rw [t.T] at this
        exact this
    | ret d => exact fun v H' k cu tb rr => q H' v k cu tb rr
    | brk env => exact q.elim
    | cont env => exact q.elim
  | ex k w' => rw [e] at q; exact q
  | no => rw [e] at q; exact q.elim
theorem sp_end {T : List (Addr × Str)} {cup : Option Addr} {n : Nat} {m : List D → M D} {vs : List V} {H : Hp} {Q : VK} {E : XK} (h : spF g T cup n m vs H Q E) : vs.length = n ∧ ∃ (b0 : Addr → Prop) (ds : List D) (w : List D),
    (∀ a, cup = some a → b0 a) ∧ (∀ a, b0 a → ∃ xs, H a = some (.lst xs)) ∧ CupOk g cup b0 w H ∧ LamX.Tabs T H ∧ Reps g cup b0 H ds vs ∧ EndOk g T cup b0 H Q E (m ds w) := by
  obtain ⟨hl, b0, ds, wc, z1, z2, z3, z4, z5, q⟩ := h
  refine ⟨hl, b0, ds, wc, z1, z2, z3, z4, z5, ?_⟩
  generalize m ds wc = r at q ⊢
  cases r <;> exact q
theorem fn_zero (t : TxtOk G PR K mg g) (T : List (Addr × Str)) (cup : Option Addr) (i : Nat) (x : Str) (n : Nat) (h : G.fns[i]? = some (x, n)) :
    ∃ (fd : FuncData) (ps : List Str), FnOk P w K mg base (L2N.CX P w) 0 (g.fa i) fd ps (spF g T cup n (run PR 0 i)) ∧ PySem.W.keepIn K (.ref (g.fa i)) = true ∧ Binds K fd ps [] := by
  obtain ⟨m, d, fd, fn, F, b, e1, e2, e3, _⟩ := t.fns i x n h
  have no : ∀ {vs H Q E}, spF g T cup n (run PR 0 i) vs H Q E → False := fun {vs H Q E} z => by
    obtain ⟨_, b0, ds, wc, _, _, _, _, _, q⟩ := z
    exact q
  exact ⟨fd, d.ps, ⟨fun _ _ _ _ z => (no z).elim, fun _ _ _ _ _ _ _ _ _ _ _ _ _ z => (no z).elim⟩, F.kp, b⟩
theorem fn_all (t : TxtOk G PR K mg g) (T : List (Addr × Str)) (hl : ∀ i x n, G.fns[i]? = some (x, n) → G.lams.contains x = true → LamOk K mg base T x (g.fa i)) (cup : Option Addr) : ∀ (k i : Nat) (x : Str) (n : Nat), G.fns[i]? = some (x, n) →
    ∃ (fd : FuncData) (ps : List Str), FnOk P w K mg base (L2N.CX P w) (3 * k) (g.fa i) fd ps (spF g T cup n (run PR k i)) ∧ PySem.W.keepIn K (.ref (g.fa i)) = true ∧ Binds K fd ps []
  | 0, i, x, n, h => by
    obtain ⟨m, d, fd, fn, F, b, e1, e2, e3, _⟩ := t.fns i x n h
    have no : ∀ {vs H Q E}, spF g T cup n (run PR 0 i) vs H Q E → False := fun {vs H Q E} z => by
      obtain ⟨_, b0, ds, wc, _, _, _, _, _, q⟩ := z
      exact q
    exact ⟨fd, d.ps, ⟨fun _ _ _ _ z => (no z).elim, fun _ _ _ _ _ _ _ _ _ _ _ _ _ z => (no z).elim⟩, F.kp, b⟩
  | k + 1, i, x, n, h => by
    obtain ⟨m, d, fd, fn, F, b, e1, e2, e3, e6⟩ := t.fns i x n h
    obtain ⟨e3, h4⟩ := and2 e3
    obtain ⟨e3, h3⟩ := and2 e3
    obtain ⟨h1, h2⟩ := and2 e3
    have SC := okScope_ok h1
    have h2 : d.ps.length = fn.ar := eq_of_beq h2
    have h3 : d.N.length = fn.slots := eq_of_beq h3
    refine ⟨fd, d.ps, ?_, F.kp, b⟩
    refine funD_ok (k := 3 * k + 2) F SC (fun vs H Q E z => by rw [z.1, h2, e2]) fun cdv A outer s H vs Q E hcd hr z => ?_
    obtain ⟨hln, b0, ds, wc, z1, z2, z3, z4, z5, q⟩ := sp_end z
    have X : XOkS G (run PR k) (etOf PR) (PR.fns.map Fn.ar) (3 * k) ⟨d.N, d.scope, [], tt, mtdSs fn.body, 0, d.lam⟩ (cxOf (L2N.CX P w) P w K mg base d.N x d.scope (g.fa i) cdv A outer s H E) ⟨g, T, cup, [], E⟩ :=
      ctx_ok t (fun j y m hj => ⟨fn_all t T hl cup k j y m hj⟩) SC.nd SC.kind (fun hL => by
        obtain ⟨c, Pt, r1, r2⟩ := hl i x n h (e6 hL)
        exact ⟨c, Pt, hcd.symm.trans r1, r2⟩) hr
    obtain ⟨r, hr2⟩ := Option.isSome_iff_exists.mp h4
    refine ⟨_, okSs_ok (et := etOf PR) (ars := PR.fns.map Fn.ar) fn.body (own' := []) X t.len hr2 (by cases r <;> first | trivial | exact fun i hi => by cases hi), ?_⟩
    refine ⟨_, wc, ⟨rfl, rfl, rfl, fun i => by simp⟩, start_rel (slots := fn.slots) h3 z1 z2 z3 z4 z5, ?_⟩
    have e4 : ds.length = fn.ar := by rw [z5.length, hln, e2]
    have e5 : run PR (k + 1) i ds = M.bind (execs (run PR k) (etOf PR) (PR.fns.map Fn.ar) fn.body (ds.map some ++ List.replicate (fn.slots - fn.ar) none)) endOf := by
      show (match PR.fns[i]? with
        | some fn => if ds.length = fn.ar then M.bind (execs (run PR k) (etOf PR) (PR.fns.map Fn.ar) fn.body (ds.map some ++ List.replicate (fn.slots - fn.ar) none)) endOf else M.no
        | none => M.no) = _
      rw [e1]
      dsimp only
      rw [if_pos e4]
    rw [e5] at q
    rw [← e4] at q
    exact body_end rfl rfl rfl rfl q
end
end VI
end
section
set_option maxRecDepth 100000
set_option maxHeartbeats 4000000
namespace VI
open PySem PySem.Spec PyProof.Rows L2
/-! ### the law's head, with a bound on the script's numbers -/
theorem walk_bits {l : PySem.W.OpenLaw} {n k : Nat} {q : Program} {loose : List Str} {XP : (Str → Option Value) → Heap → Prop} {YP : World → Heap → Prop} {d : DefRec} {CX : World → CXT} {x : Str}
    (hn : l.most = some n) (hn2 : n ≤ sizeLine) (hdf : d.params.defaults = []) (hr : Room k callerA)
    (F : ∀ (w : World) (mg : Str → Option Value) (fa : Addr) (h : Heap), YP w h → h.Ns mainGlobals mg → mg d.name = some (.ref fa) →
      ∃ (K : PySem.W.Frag) (fd : FuncData) (sp : Sp), K.In h ∧ (∀ (s : Shared) (u : Value), BindsTo s fd ⟨[u], []⟩ [(x, u)]) ∧
        (∀ (H : Hp) (a : Addr) (ns : List Int), ns.length ≤ n → (∀ z ∈ ns, Builtin.Int.intBits z ≤ 1048576) → SqL K H a (ns.map V.int) → sp [.ref a] H (fun v _ => v = .bl true) fun _ _ _ => False) ∧
        ∀ base : Heap, K.In base → base.Ns mainGlobals mg → FnOk l.prog w K mg base (CX w) k fa fd [x] sp)
    (hCX : ∀ (w : World) (H : Hp) (s : Shared) (e : Value) (s' : Shared), CX w [] H s (fun _ _ _ => False) e s' → False) : PySem.W.WalkO q loose XP YP l.row.toRowW d [] fun f vs => PySem.call f vs := by
  refine Att.attach_callB hn hdf fun w s₀ s₁ mg mb fa o pm cd doc a vs ns G Y ho hd hcd hmg hobj hints hlen hbits hg => ?_
  obtain ⟨K, fd, sp, KX, hb, hsp, hF⟩ := F w mg fa _ Y G.T.g hmg
  refine law_call KX G.T.g G.T.b G.T.builtins G.T.nolimit hg hobj hints (Nat.le_trans hlen hn2) hr hF hb ?_ fun H e s' z => hCX w H s₁ e s' z
  intro H _ hS
  exact hsp H a ns hlen hbits hS
/-! ### the cup -/
def cupE : E := .lst (.cons (.ite (.cmp .ge (.var 1) (.bin .pow (.con (.int 10)) (.con (.int 18)))) (.bin .fdiv (.var 1) (.con (.int 157))) (.con (.int 0))) (.cons (.bin .add (.bin .mod (.bi .int (.cons (.bin .add (.bin .mul (.var 1) (.con (.int 409))) (.con (.int 6029))) .nil)) (.con (.int 1914129581))) (.con (.int 263))) .nil))
theorem cupE_run {cl : Nat → List D → M D} {et : Nat → Str × (Nat → Option Str)} {ars : List Nat} {c : Int} (hb : c.natAbs.log2 < 134000000) (w : List D) : evalE cl et ars cupE [none, some (.int c)] w = .ok (.lst (cup0 c)) w := by
  have hm : mulOk c 409 = true := by
    unfold mulOk
    refine decide_eq_true ?_
    have : (409 : Int).natAbs.log2 = 8 := by decide +kernel
    omega
  refine ev_lst (ev_cons (x := .int (if 10 ^ 18 ≤ c then c.fdiv 157 else 0)) (w1 := w) ?_ (ev_cons (w1 := w) (ev_bin (ev_bin (ev_bi (ev_cons (ev_bin (ev_bin (ev_var rfl) ev_con (z := .int (c * 409)) ?_) ev_con rfl) ev_nil) rfl) ev_con rfl) ev_con rfl) ev_nil))
  · have hp : evalE cl et ars (.bin .pow (.con (.int 10)) (.con (.int 18))) [none, some (.int c)] w = .ok (.int (10 ^ 18)) w := ev_bin ev_con ev_con rfl
    by_cases h : (10 ^ 18 : Int) ≤ c
    · rw [if_pos h]
      exact ev_iteT (ev_cmp (ev_var rfl) hp (congrArg some (decide_eq_true h))) (ev_bin (ev_var rfl) ev_con rfl)
    · rw [if_neg h]
      exact ev_iteF (ev_cmp (ev_var rfl) hp (congrArg some (decide_eq_false h))) ev_con
  · show (if mulOk c 409 = true then some (D.int (c * 409)) else none) = _
    rw [if_pos hm]
end VI
namespace VI
open PySem PySem.Spec PyProof.Rows L2
def headAbs (ns : List Int) : Int := if (ns ++ [0]).headD 0 < 0 then -((ns ++ [0]).headD 0) else (ns ++ [0]).headD 0
section
variable {X : Cx} {p1 p2 p3 p4 p5 p6 p7 p8 p9 p10 p11 p12 : Pos} {k1 k2 : Nat}
def t_cup1 (K : PySem.W.Frag) : TS := fun Ds σ H => ∃ a ns, σ[0]? = some (some (.ref a)) ∧ SqL K H a (ns.map V.int) ∧ ns.length < 1000 ∧ ∀ H', Keep none H H' → (∀ T, LamX.Tabs T H → LamX.Tabs T H') → Ds.nx (σ.set 1 (some (.int (headAbs ns)))) H'
theorem head_at (ns : List Int) : atI (ns.map V.int ++ [.int 0]) 0 = some (.int ((ns ++ [0]).headD 0)) := by
  cases ns with
  | nil => rfl
  | cons n ns =>
    unfold atI
    have e : L2.ixN (List.map V.int (n :: ns) ++ [V.int 0]).length 0 = some 0 := by
      unfold L2.ixN
      rw [if_pos (by omega), if_pos (by simp; omega)]
      rfl
    rw [e]
    rfl
theorem ps_cup1 (hN : X.N = [("script" : Str), ("cell" : Str)]) (nd : X.N.Nodup) (hl : X.env.scope.names.lookup ("script" : Str) = some .local) (hc : X.env.scope.names.lookup ("cell" : Str) = some .local) (ga : Gl X "abs") (ma : X.mg "abs" = none) (gl : Gl X "list") (ml : X.mg "list" = none) :
    PS X (.Assign [.Name "cell" p1] (.Call (.Name "abs" p2) [.Subscript (.BinOp (.Call (.Name "list" p3) [.Name "script" p4] [] p5) .Add (.List [.Constant (.int 0) k1 p6] p7) p8) (.Constant (.int 0) k2 p9) p10] [] p11) p12) (t_cup1 X.K) := by
  have vs : PE X (.Name "script" p4) (tVar 0) := pe_var (i := 0) (by rw [hN]; rfl) (.inl hl)
  refine PS.weak (ps_set (i := 1) nd (by rw [hN]; rfl) (.inl hc) (pe_callB call_abs ga ma boot_abs (pa_cons (pe_ix ix_list (pe_op op_cat (pe_callTy call_list_of gl ml (by rfl) (pa_cons vs pa_nil)) (pe_lst (pa_cons pe_int pa_nil))) pe_int fun _ _ => rfl) pa_nil)) (by rfl) (.inr hc)) fun Ds σ H ⟨a, ns, h1, h2, h3, q⟩ => ?_
  refine ⟨_, h1, a, _, rfl, .inl h2, fun l hl' => ⟨by rw [sizeLine_eq]; decide, fun l2 hl2 => ?_⟩⟩
  have e1 : upd (upd H l (.lst (ns.map V.int))) l2 (.lst [.int 0]) l = some (.lst (ns.map V.int)) := by
    rw [upd_ne (ne_of_none upd_same hl2)]
    exact upd_same
  refine ⟨l, l2, _, _, rfl, rfl, e1, upd_same, by rw [sizeLine_eq]; simp; omega, fun l3 hl3 => ?_⟩
  refine ⟨l3, _, 0, _, rfl, rfl, SqL.of upd_same, head_at ns, (ns ++ [0]).headD 0, rfl, ?_⟩
  exact q _ (((Keep.new hl').trans (Keep.new hl2)).trans (Keep.new hl3)) fun T tb => tabs_new (tabs_new (tabs_new tb hl') hl2) hl3
/-- whether a def's text is the cup's -/
def cupText (body : List Stmt) : Option Expr := match body with
  | [.Assign [.Name n1 _] (.Call (.Name n2 _) [.Subscript (.BinOp (.Call (.Name n3 _) [.Name n4 _] [] _) .Add (.List [.Constant (.int 0) _ _] _) _) (.Constant (.int 0) _ _) _] [] _) _, .Return (some e) _] =>
    if n1 == ("cell" : Str) && n2 == ("abs" : Str) && n3 == ("list" : Str) && n4 == ("script" : Str) then some e else none
  | _ => none
def cupSc (d : DefT) : Sc := ⟨d.N, d.scope, [], tt, [], 0, false⟩
def okCup (G : Cst) (d : DefT) : Bool :=
  okScope d && (d.N == [("script" : Str), ("cell" : Str)]) && (d.ps == [("script" : Str)]) && locB d.scope "script" && locB d.scope "cell" && freeB G (cupSc d) "abs" && freeB G (cupSc d) "list" && (match cupText d.body with
    | some e => okE G (cupSc d) true cupE e
    | none => false)
end
/-- the cup's promise -/
def spCup (K : PySem.W.Frag) (T : List (Addr × Str)) : Sp := fun vs H Q _ => ∃ a ns, vs = [.ref a] ∧ SqL K H a (ns.map V.int) ∧ ns.length < 1000 ∧ (headAbs ns).natAbs.log2 < 134000000 ∧ LamX.Tabs T H ∧ ∀ p H', Keep none H H' → LamX.Tabs T H' → H' p = some (.lst [.int (if 10 ^ 18 ≤ headAbs ns then (headAbs ns).fdiv 157 else 0), .int (((headAbs ns) * 409 + 6029).fmod 1914129581 + 263)]) → Q (.ref p) H'
section
variable {G : Cst} {PR : Prog} {P : Program} {w : World} {K : PySem.W.Frag} {mg : Str → Option Value} {base : Heap} {g : Gb}
theorem cup_fn (t : TxtOk G PR K mg g) {x : Str} {d : DefT} {f : Addr} {fd : FuncData} (F : FunD K x x d.params d.body d.scope [] [] f fd) (h : okCup G d = true) (T : List (Addr × Str)) : FnOk P w K mg base (L2N.CX P w) 3 f fd d.ps (spCup K T) := by
  obtain ⟨h, h8⟩ := and2 h
  obtain ⟨h, h7⟩ := and2 h
  obtain ⟨h, h6⟩ := and2 h
  obtain ⟨h, h5⟩ := and2 h
  obtain ⟨h, h4⟩ := and2 h
  obtain ⟨h, h3⟩ := and2 h
  obtain ⟨h1, h2⟩ := and2 h
  have SC := okScope_ok h1
  have h2 : d.N = [("script" : Str), ("cell" : Str)] := eq_of_beq h2
  have h3 : d.ps = [("script" : Str)] := eq_of_beq h3
  refine F.ok (k := 2) SC (fun vs H Q E z => ?_) fun cdv A outer s H vs Q E hr z => ?_
  · obtain ⟨a, ns, rfl, _⟩ := z
    rw [h3]; rfl
  obtain ⟨a, ns, rfl, z1, z2, z3, zT, z4⟩ := z
  have X : XOkS G (run PR 0) (etOf PR) (PR.fns.map Fn.ar) 0 ⟨d.N, d.scope, [], tt, [], 0, false⟩ (cxOf (L2N.CX P w) P w K mg base d.N x d.scope f cdv A outer s H E) ⟨g, T, none, [], E⟩ :=
    ctx_ok t (fun j y m hj => ⟨fn_zero t T none j y m hj⟩) SC.nd SC.kind (fun h => by cases h) hr
  unfold cupText at h8
  split at h8
  · rename_i e hz
    split at hz
    · rename_i n1 p1 n2 p2 n3 p3 n4 p4 p5 k1 p6 p7 p8 k2 p9 p10 p11 p12 e' p13 hbody
      split at hz
      · rename_i hg
        cases hz
        obtain ⟨hg, g4⟩ := and2 hg
        obtain ⟨hg, g3⟩ := and2 hg
        obtain ⟨g1, g2⟩ := and2 hg
        have g1 := eq_of_beq g1
        have g2 := eq_of_beq g2
        have g3 := eq_of_beq g3
        have g4 := eq_of_beq g4
        subst g1; subst g2; subst g3; subst g4
        obtain ⟨f1, f2, _, _⟩ := free_ok X.o h6
        obtain ⟨f3, f4, _, _⟩ := free_ok X.o h7
        have s1 := ps_cup1 (X := cxOf (L2N.CX P w) P w K mg base d.N x d.scope f cdv A outer s H E) (p1 := p1) (p2 := p2) (p3 := p3) (p4 := p4) (p5 := p5) (p6 := p6) (p7 := p7) (p8 := p8) (p9 := p9) (p10 := p10) (p11 := p11) (p12 := p12) (k1 := k1) (k2 := k2) h2 SC.nd (eq_of_beq h4) (eq_of_beq h5) f1 f2 f3 f4
        have s2 := ss_ret (pos := p13) (lo := []) (own' := []) (own := []) (S := ⟨g, T, none, [], E⟩) (okE_ok (et := etOf PR) (ars := PR.fns.map Fn.ar) cupE X.o t.len h8).1
        rw [hbody]
        refine ⟨_, pss_cons s1 (pss_one s2), ?_⟩
        have e1 : L2.start d.N [V.ref a] = [some (.ref a), none] := by rw [h2]; rfl
        rw [e1]
        refine ⟨a, ns, rfl, z1, z2, fun H' k' tb => ?_⟩
        refine ⟨⟨T, none, fun _ => False, H', [], [none, some (.int (headAbs ns))], [some (.ref a), some (.int (headAbs ns))]⟩, [], ⟨rfl, rfl, rfl, fun i => by simp⟩, ?_, ?_⟩
        · exact {
            len := rfl
            ground := Keep.refl
            lists := fun a z => by rcases z with z | z <;> first | exact z.elim | cases z
            cupB := fun a z => by cases z
            new := fun p hp => by cases hp
            cupOk := fun a z => by cases z
            ndS := List.nodup_nil
            ndA := List.nodup_nil
            val := fun i d e => by
              match i with
              | 0 => cases e
              | 1 => cases e; exact ⟨_, rfl, .inr ⟨by simp, rfl⟩⟩
              | i + 2 => cases e
            tabs := tb T zT }
        · have hrun := cupE_run (cl := run PR 0) (et := etOf PR) (ars := PR.fns.map Fn.ar) z3 []
          show WpS _ _ _ _ _ _ (M.bind (evalE (run PR 0) (etOf PR) (PR.fns.map Fn.ar) cupE [none, some (.int (headAbs ns))]) (fun d => M.pure (VI.F.ret d)) [])
          unfold M.bind
          rw [hrun]
          intro v H2 k2 _ t2 rr
          obtain ⟨p, us, rfl, q1, _, q2⟩ := rr
          obtain ⟨u1, us, rfl, r1, q2⟩ := q2
          obtain ⟨u2, us, rfl, r2, q2⟩ := q2
          cases q2
          cases r1
          cases r2
          exact z4 p H2 (k'.trans k2) t2 q1
      · cases hz
    · cases hz
  · cases h8
end
end VI
end
section
set_option maxRecDepth 100000
set_option maxHeartbeats 4000000
namespace VI
open PySem PySem.Spec PyProof.Rows L2
/-! ### the law's def -/
def lawText (body : List Stmt) : Option (List Stmt) := match body with
  | .Assign [.Name n1 _] (.Call (.Name n2 _) [.Name n3 _] [] _) _ :: rest => if n1 == ("cup" : Str) && n2 == ("_law_cup" : Str) && n3 == ("script" : Str) then some rest else none
  | _ => none
def okLaw (G : Cst) (d : DefT) (body : Ss) : Bool :=
  okScope d && (d.ps == [("script" : Str)]) && (d.N[0]? == some ("script" : Str)) && (d.N[1]? == some ("cup" : Str)) && visB d.scope "script" && (d.scope.names.lookup ("cup" : Str) == some .local || d.scope.names.lookup ("cup" : Str) == some .cell) && glbB ⟨d.N, d.scope, [], tt, [], 0, false⟩ "_law_cup" &&
    (match lawText d.body with
    | some rest => (okSs G ⟨d.N, d.scope, [], tt, mtdSs body, 0, d.lam⟩ [] body rest).isSome
    | none => false)
def spLaw (K : PySem.W.Frag) (T : List (Addr × Str)) : Sp := fun vs H Q _ => ∃ a ns, vs = [.ref a] ∧ SqL K H a (ns.map V.int) ∧ ns.length < 1000 ∧ (headAbs ns).natAbs.log2 < 134000000 ∧ LamX.Tabs T H ∧ ∀ H', Q (.bl true) H'
section
variable {G : Cst} {PR : Prog} {P : Program} {w : World} {K : PySem.W.Frag} {mg : Str → Option Value} {base : Heap} {g : Gb}
theorem headAbs_nn (ns : List Int) : 0 ≤ headAbs ns := by
  unfold headAbs
  split <;> omega
theorem law_fn (t : TxtOk G PR K mg g) {x xc : Str} {d dc : DefT} {f fc : Addr} {fd fdc : FuncData} {body : Ss} {k : Nat} (F : FunD K x x d.params d.body d.scope [] [] f fd) (h : okLaw G d body = true)
    (FC : FunD K xc xc dc.params dc.body dc.scope [] [] fc fdc) (hc : okCup G dc = true) (bc : Binds K fdc dc.ps []) (mc : mg "_law_cup" = some (.ref fc)) (T : List (Addr × Str)) (hl : ∀ i x n, G.fns[i]? = some (x, n) → G.lams.contains x = true → LamOk K mg base T x (g.fa i)) (hlL : d.lam = true → LamOk K mg base T x f)
    (hrun : ∀ c : Int, 0 ≤ c → ∃ w', execs (run PR (k + 1)) (etOf PR) (PR.fns.map Fn.ar) body (lawEnv d.N.length) (cup0 c) = .ok (.ret (.bl true)) w') :
    FnOk P w K mg base (L2N.CX P w) (3 * (k + 1) + 3) f fd d.ps (spLaw K T) := by
  obtain ⟨h, h8⟩ := and2 h
  obtain ⟨h, h7⟩ := and2 h
  obtain ⟨h, h6⟩ := and2 h
  obtain ⟨h, h5⟩ := and2 h
  obtain ⟨h, h4⟩ := and2 h
  obtain ⟨h, h3⟩ := and2 h
  obtain ⟨h1, h2⟩ := and2 h
  have SC := okScope_ok h1
  have h2 : d.ps = [("script" : Str)] := eq_of_beq h2
  have h3 : d.N[0]? = some ("script" : Str) := eq_of_beq h3
  have h4 : d.N[1]? = some ("cup" : Str) := eq_of_beq h4
  refine funD_ok (k := 3 * (k + 1) + 2) F SC (fun vs H Q E z => ?_) fun cdv A outer s H vs Q E hcd hr z => ?_
  · obtain ⟨a, ns, rfl, _⟩ := z
    rw [h2]; rfl
  obtain ⟨a, ns, rfl, z1, z2, z3, zT, z4⟩ := z
  have X : ∀ cup : Option Addr, XOkS G (run PR (k + 1)) (etOf PR) (PR.fns.map Fn.ar) (3 * (k + 1)) ⟨d.N, d.scope, [], tt, mtdSs body, 0, d.lam⟩ (cxOf (L2N.CX P w) P w K mg base d.N x d.scope f cdv A outer s H E) ⟨g, T, cup, [], E⟩ := fun cup =>
    ctx_ok t (fun j y m hj => ⟨fn_all t T hl cup (k + 1) j y m hj⟩) SC.nd SC.kind (fun hL => by
      obtain ⟨c, Pt, r1, r2⟩ := hlL hL
      exact ⟨c, Pt, hcd.symm.trans r1, r2⟩) hr
  unfold lawText at h8
  split at h8
  · rename_i rest hz
    split at hz
    · rename_i n1 p1 n2 p2 n3 p3 p4 p5 rest' hbody
      split at hz
      · rename_i hg
        cases hz
        obtain ⟨hg, g3⟩ := and2 hg
        obtain ⟨g1, g2⟩ := and2 hg
        have g1 := eq_of_beq g1
        have g2 := eq_of_beq g2
        have g3 := eq_of_beq g3
        subst g1; subst g2; subst g3
        obtain ⟨r, hr2⟩ := Option.isSome_iff_exists.mp h8
        obtain ⟨l1, l2, _⟩ := glb_ok (X none).o h7
        have lc : Loc (cxOf (L2N.CX P w) P w K mg base d.N x d.scope f cdv A outer s H E).env.scope "cup" := by
          rw [Bool.or_eq_true] at h6
          exact h6.imp eq_of_beq eq_of_beq
        have hdc : dc.ps = [("script" : Str)] := by
          obtain ⟨hc, _⟩ := and2 hc
          obtain ⟨hc, _⟩ := and2 hc
          obtain ⟨hc, _⟩ := and2 hc
          obtain ⟨hc, _⟩ := and2 hc
          obtain ⟨hc, _⟩ := and2 hc
          exact eq_of_beq (and2 hc).2
        have FN : FnOk P w K mg base (L2N.CX P w) (3 * (k + 1) + 2) fc fdc dc.ps (spCup K T) := (cup_fn t FC hc T).mono (by omega)
        have s1 : PS (cxOf (L2N.CX P w) P w K mg base d.N x d.scope f cdv A outer s H E) (.Assign [.Name "cup" p1] (.Call (.Name "_law_cup" p2) [.Name "script" p3] [] p4) p5) (tAsg (tCall (spCup K T) [] E (tCons (tVar 0) tNil)) (gName 1)) :=
          ps_set (X := cxOf (L2N.CX P w) P w K mg base d.N x d.scope f cdv A outer s H E) (i := 1) SC.nd h4 lc (pe_call FN hr l1 mc FC.kp bc .nil ((X none).o.pass rfl) (pa_cons (pe_var (i := 0) h3 (vis_ok h5)) pa_nil) l2) (by rfl) (.inl rfl)
        have s2 : PSs (cxOf (L2N.CX P w) P w K mg base d.N x d.scope f cdv A outer s H E) rest fun Ds σ H' => ∃ p, tSt ⟨g, T, some p, [], E⟩ [] [] (execs (run PR (k + 1)) (etOf PR) (PR.fns.map Fn.ar) body) Ds σ H' :=
          ⟨fun pins s' σ H' Ds I ⟨p, q⟩ => (okSs_ok (et := etOf PR) (ars := PR.fns.map Fn.ar) body (own' := []) (X (some p)) t.len hr2 (by cases r <;> first | trivial | exact fun i hi => by cases hi)).run pins s' σ H' Ds I q⟩
        rw [hbody]
        refine ⟨_, pss_cons s1 s2, ?_⟩
        have hlen : 2 ≤ d.N.length := by
          have := (List.getElem?_eq_some_iff.mp h4).1
          omega
        have e0 : (L2.start d.N [V.ref a])[0]? = some (some (.ref a)) := rfl
        refine ⟨.ref a, e0, a, ns, rfl, z1, z2, z3, zT, fun p H' k' tb hp => ?_⟩
        refine ⟨p, ⟨T, some p, fun b => b = p, H', [], lawEnv d.N.length, (L2.start d.N [V.ref a]).set 1 (some (.ref p))⟩, cup0 (headAbs ns), ⟨rfl, rfl, rfl, fun i => by simp⟩, ?_, ?_⟩
        · exact {
            len := by
              show (lawEnv d.N.length).length = ((L2.start d.N [V.ref a]).set 1 (some (.ref p))).length
              unfold lawEnv L2.start
              simp
              omega
            ground := Keep.refl
            lists := fun b z => by
              rcases z with z | z
              · rw [z]; exact ⟨_, hp⟩
              · cases z
            cupB := fun b z => by cases z; rfl
            new := fun q hq => by cases hq
            cupOk := fun b z => by
              cases z
              exact ⟨_, hp, _, _, rfl, rfl, _, _, rfl, rfl, rfl⟩
            ndS := List.nodup_nil
            ndA := List.nodup_nil
            val := fun i dd e => by
              have e : ((List.replicate d.N.length none).set 1 (some D.cup))[i]? = some (some dd) := e
              by_cases hi : 1 = i
              · subst hi
                rw [List.getElem?_set_self (by simp; omega)] at e
                cases e
                refine ⟨.ref p, ?_, .inr ⟨by simp, p, rfl, rfl⟩⟩
                refine List.getElem?_set_self ?_
                unfold L2.start
                simp
                omega
              · rw [List.getElem?_set_ne hi, List.getElem?_replicate] at e
                split at e <;> cases e
            tabs := tb }
        · obtain ⟨w', hw⟩ := hrun (headAbs ns) (headAbs_nn ns)
          show WpS _ _ _ _ _ _ (execs (run PR (k + 1)) (etOf PR) (PR.fns.map Fn.ar) body (lawEnv d.N.length) (cup0 (headAbs ns)))
          rw [hw]
          intro v H2 _ _ _ rr
          cases rr
          exact z4 H2
      · cases hz
    · cases hz
  · cases h8
end
end VI
end
section
set_option maxRecDepth 100000
set_option maxHeartbeats 4000000
namespace VI
open PySem PySem.Spec PyProof.Rows L2 He
/-! ### from what a head tells to what stands of the text -/
mutual
theorem vB_ok {K : PySem.W.Frag} {g : Gb} (hg : g.K = K) : ∀ {d : D} {u : Value}, vB K d u = true → ∃ v, RelV v u ∧ ∀ cup bad H, Rep g cup bad H d v
  | .non, u, h => by
    cases u <;> first | exact ⟨.non, rfl, fun _ _ _ => rfl⟩ | cases h
  | .bl b, u, h => by
    cases u <;> first | (cases h; done) | (have h : (b == _) = true := h; cases eq_of_beq h; exact ⟨.bl b, rfl, fun _ _ _ => rfl⟩)
  | .int i, u, h => by
    cases u with
    | int j t =>
      have h : i = j := of_decide_eq_true h
      subst h
      exact ⟨.int i, ⟨t, rfl⟩, fun _ _ _ => rfl⟩
    | _ => cases h
  | .str i, u, h => by
    cases u with
    | str j t =>
      have h : i = j := of_decide_eq_true h
      subst h
      exact ⟨.str i, ⟨t, rfl⟩, fun _ _ _ => rfl⟩
    | _ => cases h
  | .tup ds, u, h => by
    cases u with
    | ref a =>
      have h : (match K.lookup a with
        | some ⟨.type c, _, .seq its _, _⟩ => decide (c = "tuple") && decide (its.size ≤ sizeLine) && vBs K ds its.toList
        | _ => false) = true := h
      split at h
      · rename_i c od its n sl e
        obtain ⟨h12, h3⟩ := and2 h
        obtain ⟨h1, h2⟩ := and2 h12
        obtain ⟨vs, r, q⟩ := vBs_ok hg h3
        have h1 : c = "tuple" := of_decide_eq_true h1
        subst h1
        exact ⟨.ref a, rfl, fun cup bad H => ⟨a, vs, rfl, .inr ⟨_, its, n, by rw [hg]; exact e, rfl, rfl, of_decide_eq_true h2, r⟩, q cup bad H⟩⟩
      · cases h
    | _ => cases h
  | .lst _, _, h => by cases h
  | .fn _, _, h => by cases h
  | .cup, _, h => by cases h
  | .exn _, _, h => by cases h
theorem vBs_ok {K : PySem.W.Frag} {g : Gb} (hg : g.K = K) : ∀ {ds : List D} {us : List Value}, vBs K ds us = true → ∃ vs, Vals vs us ∧ ∀ cup bad H, Reps g cup bad H ds vs
  | [], us, h => by
    cases us with
    | nil => exact ⟨[], .nil, fun _ _ _ => rfl⟩
    | cons _ _ => cases h
  | d :: ds, us, h => by
    cases us with
    | nil => cases h
    | cons u us =>
      obtain ⟨h1, h2⟩ := and2 (show (vB K d u && vBs K ds us) = true from h)
      obtain ⟨v, r1, q1⟩ := vB_ok hg h1
      obtain ⟨vs, r2, q2⟩ := vBs_ok hg h2
      exact ⟨v :: vs, .cons r1 r2, fun cup bad H => ⟨v, vs, rfl, q1 cup bad H, q2 cup bad H⟩⟩
end
theorem excCB_ok {K : PySem.W.Frag} {D : Addr} (h : excCB K D = true) : ExcC K D := by
  obtain ⟨h, h8⟩ := and2 h
  obtain ⟨h, h7⟩ := and2 h
  obtain ⟨h, h6⟩ := and2 h
  obtain ⟨h, h5⟩ := and2 h
  obtain ⟨h, h4⟩ := and2 h
  obtain ⟨h, h3⟩ := and2 h
  obtain ⟨h1, h2⟩ := and2 h
  exact ⟨eqO_ok h1, eqO_ok h2, of_decide_eq_true h3, h4, eqO_ok h5, eqO_ok h6, of_decide_eq_true h7, of_decide_eq_true h8⟩
/-- how a def's plain parameters bind -/
def BindD (x : Str) (d : DefT) : Prop := ∀ (kV doc pm : Value) (an : Option Addr) (cdv ct : Value) (us : List Value), us.length = d.ps.length → bindArgs (PySem.W.fnOf x x d.params d.body d.scope .none kV doc pm an cdv ct) ⟨us, []⟩ = pure (d.ps.zip us)
/-- what is checked of a whole text -/
def okAll (G : Cst) (PR : Prog) (defs edefs : List DefT) : Bool :=
  (G.fns.length == defs.length) && (G.fns.length == PR.fns.length) && (G.errs.length == edefs.length) && (G.errs.length == PR.ets.length) && (PR.ncls == G.cls.length) && (G.subs.length == G.cls.length) && !G.fns.isEmpty &&
    ((List.range G.fns.length).all fun i => match G.fns[i]?, defs[i]?, PR.fns[i]? with
      | some p, some d, some f => f.ar == p.2 && okFn G d f && (!d.lam || G.lams.contains p.1)
      | _, _, _ => false) &&
    (List.range G.errs.length).all fun i => match edefs[i]?, PR.ets[i]? with
      | some d, some t => okErr G d t && (d.ps.length == 1)
      | _, _ => false
theorem fAd_none {K : PySem.W.Frag} {x : Str} : fAd K (x, none) = ga K x := rfl
section
variable {G : Cst} {PR : Prog} {defs edefs : List DefT} {dc dl : DefT} {K : PySem.W.Frag} {mg : Str → Option Value} {h : Heap} {w : World} {tf : List Defn}
theorem txt_of (c : SaysX (faOf G) (fnOf G defs edefs dc dl) [] tf (exB G) w h K) (KX : K.In h) (N : h.Ns mainGlobals mg) (ok : okAll G PR defs edefs = true) (bd : ∀ (i : Nat) (x : Str) (n : Nat) (d : DefT), G.fns[i]? = some (x, n) → defs[i]? = some d → BindD x d) (be : ∀ (i : Nat) (x : Str) (d : DefT), G.errs[i]? = some x → edefs[i]? = some d → BindD x d) : TxtOk G PR K mg (gbOf G K) := by
  obtain ⟨ok, o9⟩ := and2 ok
  obtain ⟨ok, o8⟩ := and2 ok
  obtain ⟨ok, o7⟩ := and2 ok
  obtain ⟨ok, o6⟩ := and2 ok
  obtain ⟨ok, o5⟩ := and2 ok
  obtain ⟨ok, o4⟩ := and2 ok
  obtain ⟨ok, o3⟩ := and2 ok
  obtain ⟨o1, o2⟩ := and2 ok
  have o6 : G.subs.length = G.cls.length := eq_of_beq o6
  have o2 : G.fns.length = PR.fns.length := eq_of_beq o2
  have cd := c.t.d
  obtain ⟨ex, _⟩ := and2 (show (_ && _) = true from c.more)
  obtain ⟨ex, e4⟩ := and2 ex
  obtain ⟨ex, e3⟩ := and2 ex
  obtain ⟨e1, e2⟩ := and2 ex
  have glo : ∀ x, Fa.glo x ∈ faOf G → mg x = some (.ref (ga K x)) := fun x hx => He.glo_ok KX N (cd.facts hx)
  have mf : ∀ {f : Fa}, f ∈ G.fns.map (fun p => Fa.glo p.1) ∨ f ∈ G.errs.map Fa.glo ∨ f ∈ G.free.map Fa.free ∨ f ∈ G.cls.map Fa.exc ∨ f ∈ G.cls.map Fa.glo → f ∈ faOf G := fun {f} hf => by
    unfold faOf
    simp only [List.mem_append]
    rcases hf with q | q | q | q | q <;> simp [q]
  have kx : ∀ ce k0, ce < G.cls.length → k0 < G.cls.length → ∀ ks, G.subs[ce]? = some ks → PySem.W.kitOne K (.ref ((gbOf G K).ca k0)) (.ref ((gbOf G K).ca ce)) = some (ks.contains k0) ∧ PySem.W.exmOne K (.ref ((gbOf G K).ca k0)) (.ref ((gbOf G K).ca ce)) = some (ks.contains k0) := fun ce k0 h1 h2 ks h3 => by
    have q := List.all_eq_true.mp (List.all_eq_true.mp e3 ce (List.mem_range.mpr h1)) k0 (List.mem_range.mpr h2)
    obtain ⟨q1, q2⟩ := and2 q
    have es : G.subs.getD ce [] = ks := by rw [List.getD_eq_getElem?_getD, h3]; rfl
    rw [es] at q1 q2
    exact ⟨of_decide_eq_true q1, of_decide_eq_true q2⟩
  exact {
    hK := rfl
    con := fun p hp => by
      have q := List.all_eq_true.mp e1 p hp
      split at q
      · rename_i u hu
        obtain ⟨v, r1, r2⟩ := vB_ok (g := gbOf G K) rfl q
        exact ⟨u, v, PySem.W.mg_of KX N hu, r1, r2⟩
      · cases q
    free := fun x hx => He.free_ok KX N (cd.facts (mf (.inr (.inr (.inl (List.mem_map.mpr ⟨x, hx, rfl⟩))))))
    gcd := fun hg => by
      rw [hg] at e2
      exact PySem.W.mg_of KX N (eqO_ok e2)
    cls := fun ce n hn => by
      have ec : (gbOf G K).ca ce = ga K n := by
        show ga K (G.cls[ce]?.getD "") = ga K n
        rw [hn]; rfl
      have mem : n ∈ G.cls := List.mem_of_getElem? hn
      obtain ⟨x1, x2, x3, x4⟩ := He.exc_ok (cd.facts (mf (.inr (.inr (.inr (.inl (List.mem_map.mpr ⟨n, mem, rfl⟩)))))))
      rw [ec]
      exact ⟨glo n (mf (.inr (.inr (.inr (.inr (List.mem_map.mpr ⟨n, mem, rfl⟩)))))), x2, x3, x4, _, _, _, _, PySem.F.excBase_ValueError, x1⟩
    fns := fun i x n hn => by
      have ei : (gbOf G K).fa i = ga K x := by
        show ga K ((G.fns[i]?.map (·.1)).getD "") = ga K x
        rw [hn]; rfl
      have hi := (List.getElem?_eq_some_iff.mp hn).1
      have q := List.all_eq_true.mp o8 i (List.mem_range.mpr hi)
      rw [hn] at q
      rw [ei]
      refine ⟨glo x (mf (.inl (List.mem_map.mpr ⟨(x, n), List.mem_of_getElem? hn, rfl⟩))), ?_⟩
      split at q
      · rename_i p d f e5 e6 e7
        cases e5
        obtain ⟨q, q3⟩ := and2 q
        obtain ⟨q1, q2⟩ := and2 q
        have md : d.dd x ∈ fnOf G defs edefs dc dl := by
          unfold fnOf
          refine List.mem_append_left _ (List.mem_append_left _ (List.mem_map.mpr ⟨((x, n), d), ?_, rfl⟩))
          exact List.mem_of_getElem? (List.getElem?_zip_eq_some.mpr ⟨hn, e6⟩)
        obtain ⟨fd, F⟩ := cd.defs md
        refine ⟨d, fd, f, F, FunD.bindsN F (bd i x n d hn e6), e7, eq_of_beq q1, q2, fun hl => ?_⟩
        rw [hl] at q3
        exact q3
      · cases q
    subs := fun ce ks k0 h1 h2 h3 => (kx ce k0 h1 h3 ks h2).1
    exm := fun ce ks k0 h1 h2 h3 => (kx ce k0 h1 h3 ks h2).2
    excC := fun k0 h1 => excCB_ok (List.all_eq_true.mp e4 k0 (List.mem_range.mpr h1))
    gex := rfl
    ncls := eq_of_beq o5
    errs := fun i n hn => by
      have hi := (List.getElem?_eq_some_iff.mp hn).1
      have q := List.all_eq_true.mp o9 i (List.mem_range.mpr hi)
      split at q
      · rename_i d t e5 e6
        obtain ⟨q1, q2⟩ := and2 q
        have md : d.dd n ∈ fnOf G defs edefs dc dl := by
          unfold fnOf
          refine List.mem_append_left _ (List.mem_append_right _ (List.mem_map.mpr ⟨(n, d), ?_, rfl⟩))
          exact List.mem_of_getElem? (List.getElem?_zip_eq_some.mpr ⟨hn, e5⟩)
        obtain ⟨fd, F⟩ := cd.defs md
        have l1 : d.ps.length = 1 := eq_of_beq q2
        obtain ⟨a, ea⟩ := List.length_eq_one_iff.mp l1
        exact ⟨d, fd, _, t, a, glo n (mf (.inr (.inl (List.mem_map.mpr ⟨n, List.mem_of_getElem? hn, rfl⟩)))), F, FunD.bindsN F (be i n d hn e5), e6, ea, q1⟩
      · cases q
    len := fun i => by
      rw [List.getElem?_map]
      cases e : G.fns[i]? with
      | none =>
        have := List.getElem?_eq_none_iff.mp e
        rw [List.getElem?_eq_none (by omega)]
        rfl
      | some p =>
        have hi := (List.getElem?_eq_some_iff.mp e).1
        have q := List.all_eq_true.mp o8 i (List.mem_range.mpr hi)
        rw [e] at q
        split at q
        · rename_i p' d f e5 e6 e7
          cases e5
          obtain ⟨q, _⟩ := and2 q
          rw [e7]
          show some f.ar = some p.2
          rw [eq_of_beq (and2 q).1]
        · cases q }
/-- the lambdas' tables -/
def tabsOf (G : Cst) (K : PySem.W.Frag) : List (Addr × Str) := G.lams.map fun x => ((cT K (x, none)).2, (x ++ ".<locals>.") ++ "<lambda>")
theorem nodup_inj {α β : Type} {f : α → β} : ∀ {l : List α}, (l.map f).Nodup → ∀ {a b : α}, a ∈ l → b ∈ l → f a = f b → a = b
  | x :: l, nd, a, b, ha, hb, e => by
    rw [List.map_cons, List.nodup_cons] at nd
    rcases List.mem_cons.mp ha with e1 | e1 <;> rcases List.mem_cons.mp hb with e2 | e2
    · rw [e1, e2]
    · exact absurd (List.mem_map.mpr ⟨b, e2, by rw [← e, e1]⟩) nd.1
    · exact absurd (List.mem_map.mpr ⟨a, e1, by rw [e, e2]⟩) nd.1
    · exact nodup_inj nd.2 e1 e2 e
theorem lam_of (c : SaysX (faOf G) (fnOf G defs edefs dc dl) [] (lamTf G) (exB G) w h K) {base : Heap} (tb : ∀ p ∈ (lamTf G).map (cT K), LamX.TabB base mg p.1 p.2) {x : Str} (hx : x ∈ G.lams) : LamOk K mg base (tabsOf G K) x (ga K x) := by
  obtain ⟨_, e5⟩ := and2 (show (_ && _) = true from c.more)
  obtain ⟨n1, n2⟩ := and2 e5
  have nd := of_decide_eq_true n1
  have q := List.all_eq_true.mp n2 x hx
  split at q
  · rename_i cc ec
    have q := of_decide_eq_true q
    subst q
    refine ⟨_, (cT K (x, none)).2, ec, tb (cT K (x, none)) (List.mem_map.mpr ⟨(x, none), List.mem_map.mpr ⟨x, hx, rfl⟩, rfl⟩), List.mem_map.mpr ⟨x, hx, rfl⟩, fun p hp e => ?_⟩
    obtain ⟨y, hy, rfl⟩ := List.mem_map.mp hp
    have : y = x := nodup_inj (f := fun x => (cT K (x, none)).2) nd hy hx e
    rw [this]
  · cases q
end
end VI
end
section
set_option maxRecDepth 100000
set_option maxHeartbeats 4000000
namespace VI
open PySem PySem.Spec PyProof.Rows L2 He
section
variable {G : Cst} {PR : Prog} {defs edefs : List DefT} {dc dl : DefT} {K : PySem.W.Frag} {mg : Str → Option Value} {h : Heap} {w : World}
theorem bits_log {c : Int} (h : Builtin.Int.intBits c ≤ 1048576) : c.natAbs.log2 < 134000000 := by
  unfold Builtin.Int.intBits at h
  split at h
  · rename_i z
    rw [eq_of_beq z]
    have : (0 : Int).natAbs.log2 = 0 := by decide +kernel
    omega
  · omega
theorem headAbs_bits {ns : List Int} (h : ∀ z ∈ ns, Builtin.Int.intBits z ≤ 1048576) : (headAbs ns).natAbs.log2 < 134000000 := by
  have e : (headAbs ns).natAbs = ((ns ++ [0]).headD 0).natAbs := by
    unfold headAbs
    split <;> omega
  rw [e]
  cases ns with
  | nil =>
    have : (([] ++ [0] : List Int).headD 0).natAbs.log2 = 0 := by decide +kernel
    omega
  | cons n ns => exact bits_log (h n List.mem_cons_self)
/-- the law's promise, behind the top -/
theorem law_at {l : PySem.W.OpenLaw} {fa : Addr} {body : Ss} {k : Nat} (c : SaysX (faOf G) (fnOf G defs edefs dc dl) [] (lamTf G) (exB G) w h K) (KX : K.In h) (N : h.Ns mainGlobals mg) (ok : okAll G PR defs edefs = true)
    (bd : ∀ (i : Nat) (x : Str) (n : Nat) (d : DefT), G.fns[i]? = some (x, n) → defs[i]? = some d → BindD x d) (be : ∀ (i : Nat) (x : Str) (d : DefT), G.errs[i]? = some x → edefs[i]? = some d → BindD x d) (bc : BindD "_law_cup" dc) (bl : BindD "law" dl)
    (okC : okCup G dc = true) (okL : okLaw G dl body = true) (hp : dl.ps = [("script" : Str)]) (hlm : dl.lam = true → ("law" : Str) ∈ G.lams) (hfa : mg "law" = some (.ref fa))
    (hrun : ∀ c : Int, 0 ≤ c → ∃ w', execs (run PR (k + 1)) (etOf PR) (PR.fns.map Fn.ar) body (lawEnv dl.N.length) (cup0 c) = .ok (.ret (.bl true)) w') :
    LamX.LawAtS l w K (L2N.CX l.prog w) (3 * (k + 1) + 3) 63 "script" mg fa h := by
  have T := txt_of c KX N ok bd be
  have cd := c.t.d
  have mlaw : dl.dd "law" ∈ fnOf G defs edefs dc dl := by
    unfold fnOf
    simp
  have mcup : dc.dd "_law_cup" ∈ fnOf G defs edefs dc dl := by
    unfold fnOf
    simp
  obtain ⟨fd, F⟩ := cd.defs mlaw
  obtain ⟨fdc, FC⟩ := cd.defs mcup
  have g1 : mg "law" = some (.ref (ga K "law")) := He.glo_ok KX N (cd.facts (by unfold faOf; simp))
  have g2 : mg "_law_cup" = some (.ref (ga K "_law_cup")) := He.glo_ok KX N (cd.facts (by unfold faOf; simp))
  have e : fa = ga K "law" := by
    rw [g1] at hfa
    cases hfa
    rfl
  subst e
  have FD : FunD K "law" "law" dl.params dl.body dl.scope [] [] (ga K "law") fd := F
  have FDC : FunD K "_law_cup" "_law_cup" dc.params dc.body dc.scope [] [] (ga K "_law_cup") fdc := FC
  refine ⟨fd, (lamTf G).map (cT K), spLaw K (tabsOf G K), fun p hp => ?_, fun p hp => ?_, fun p hp => ?_, fun s u => ?_, fun H a ns hl hb hT hS => ?_, fun base KB NB TB => ?_⟩
  · obtain ⟨q, hq, rfl⟩ := List.mem_map.mp hp
    exact c.empty q hq
  · obtain ⟨q, hq, rfl⟩ := List.mem_map.mp hp
    exact c.out q hq
  · obtain ⟨q, hq, rfl⟩ := List.mem_map.mp hp
    exact PySem.W.codeHd_of_K KX (c.hd q hq)
  · have b := FunD.bindsA FD bl s [u] (by rw [hp]; rfl)
    rw [hp] at b
    exact b
  · refine ⟨a, ns, rfl, hS, by omega, headAbs_bits hb, fun p hp => ?_, fun _ => rfl⟩
    obtain ⟨x, hx, rfl⟩ := List.mem_map.mp hp
    exact LamX.TabS.nil (hT (cT K (x, none)) (List.mem_map.mpr ⟨(x, none), List.mem_map.mpr ⟨x, hx, rfl⟩, rfl⟩))
  · have r := law_fn (P := l.prog) (w := w) (base := base) T FD okL FDC okC (FunD.bindsN FDC bc) g2 (tabsOf G K) (fun i x n hn hx => ?_) (fun hL => lam_of c TB (hlm hL)) hrun
    · rw [hp] at r
      exact r
    · have ei : (gbOf G K).fa i = ga K x := by
        show ga K ((G.fns[i]?.map (·.1)).getD "") = ga K x
        rw [hn]; rfl
      rw [ei]
      exact lam_of c TB (List.contains_iff_mem.mp hx)
end
end VI
end
section
set_option maxRecDepth 100000
namespace VI.B
open PySem VI
/-! ### the defs that nearly all laws share, over any program that holds them -/
def f_roll : Fn := ⟨2, 4, (.cons (.ite (.cmp .gt (.idx (.var 0) (.con (.int 0))) (.con (.int 0))) (.cons (.asg (.nm 3) (.bin .mod (.bi .int (.cons (.idx (.var 0) (.con (.int 0))) .nil)) (.var 1))) (.cons (.setC 0 (.con (.int 0)) (.bin .fdiv (.idx (.var 0) (.con (.int 0))) (.var 1))) (.cons (.ret (.var 3)) .nil))) .nil) (.cons (.setC 0 (.con (.int 1)) (.bin .mod (.bi .int (.cons (.bin .add (.bin .mul (.idx (.var 0) (.con (.int 1))) (.con (.int 29347))) (.con (.int 9719))) .nil)) (.con (.int 2147483543)))) (.cons (.asg (.nm 2) (.bin .mod (.bi .int (.cons (.bin .mul (.idx (.var 0) (.con (.int 1))) (.bin .add (.idx (.var 0) (.con (.int 1))) (.con (.int 347)))) .nil)) (.con (.int 2147483587)))) (.cons (.ret (.bin .mod (.bi .int (.cons (.bin .fdiv (.var 2) (.con (.int 941))) .nil)) (.var 1))) .nil))))⟩
def f_some (ir : Nat) : Fn := ⟨2, 2, (.cons (.ret (.idx (.var 1) (.call ir (.cons (.var 0) (.cons (.bi .len (.cons (.var 1) .nil)) .nil))))) .nil)⟩
def f_sort : Fn := ⟨1, 1, (.cons (.ite (.or (.cmp .is (.var 0) (.con .non)) (.isi (.var 0) [.bool])) (.cons (.ret (.ite (.cmp .is (.var 0) (.con .non)) (.con (.int 0)) (.con (.int 1)))) .nil) .nil) (.cons (.ite (.or (.isi (.var 0) [.int]) (.isi (.var 0) [.str])) (.cons (.ret (.ite (.isi (.var 0) [.int]) (.con (.int 2)) (.con (.int 3)))) .nil) .nil) (.cons (.ret (.ite (.isi (.var 0) [.tuple]) (.con (.int 4)) (.ite (.isi (.var 0) [.list]) (.con (.int 5)) (.con (.int 6))))) .nil)))⟩
def f_like (is il : Nat) : Fn := ⟨2, 5, (.cons (.asg (.nm 2) (.call is (.cons (.var 1) .nil))) (.cons (.ite (.or (.cmp .ne (.call is (.cons (.var 0) .nil)) (.var 2)) (.cmp .eq (.var 2) (.con (.int 6)))) (.cons (.ret (.con (.bl false))) .nil) .nil) (.cons (.ite (.cmp .inn (.var 2) (.tup (.cons (.con (.int 4)) (.cons (.con (.int 5)) .nil)))) (.cons (.ret (.and (.cmp .eq (.bi .len (.cons (.var 0) .nil)) (.bi .len (.cons (.var 1) .nil))) (.cmp .eq (.compIf (.con (.int 1)) (.tp (.cons (.nm 3) (.cons (.nm 4) .nil))) (.bi .zip (.cons (.var 0) (.cons (.var 1) .nil))) (.not (.call il (.cons (.var 3) (.cons (.var 4) .nil))))) (.lst .nil)))) .nil) .nil) (.cons (.ret (.cmp .eq (.var 0) (.var 1))) .nil))))⟩
abbrev Cup (w : List D) : Prop := ∃ a b : Int, w = [.int a, .int b] ∧ 0 ≤ a ∧ 0 ≤ b ∧ b < 2147483648
theorem cup0_ok {c : Int} (h : 0 ≤ c) : Cup (cup0 c) := by
  have h1 := Int.fmod_nonneg_of_pos (c * 409 + 6029) (b := 1914129581) (by decide)
  have h2 := Int.fmod_lt_of_pos (c * 409 + 6029) (b := 1914129581) (by decide)
  refine ⟨_, _, rfl, ?_, ?_, ?_⟩
  · split
    · exact Int.fdiv_nonneg h (by decide)
    · omega
  · omega
  · omega
theorem log2_lt {i : Int} {n : Nat} (h0 : 0 ≤ i) (h : i < 2 ^ n) (hn : 0 < n) : i.natAbs.log2 < n := by
  by_cases z : i.natAbs = 0
  · rw [z]; simpa using hn
  · refine (Nat.log2_lt z).mpr ?_
    have : (i.natAbs : Int) < 2 ^ n := by rw [Int.natAbs_of_nonneg h0]; exact h
    exact_mod_cast this
theorem mul_ok {i j : Int} {n m : Nat} (hi : 0 ≤ i) (hj : 0 ≤ j) (h1 : i < 2 ^ n) (h2 : j < 2 ^ m) (hn : 0 < n) (hm : 0 < m) (hs : n + m < 134217000) : binD .mul (.int i) (.int j) = some (.int (i * j)) := by
  have a := log2_lt hi h1 hn
  have b := log2_lt hj h2 hm
  show (if mulOk i j = true then some (D.int (i * j)) else none) = _
  unfold mulOk
  rw [if_pos (decide_eq_true (by omega))]
theorem div_ok {i j : Int} {n : Nat} (hj : 0 < j) (h : j < 2 ^ n) (hn : 0 < n) (h2 : n < 9000) : binD .fdiv (.int i) (.int j) = some (.int (i.fdiv j)) := by
  have a := log2_lt (Int.le_of_lt hj) h hn
  show (if divOk j = true then some (D.int (i.fdiv j)) else none) = _
  unfold divOk
  rw [decide_eq_true (show j ≠ 0 by omega), decide_eq_true (show j.natAbs.log2 < 9000 by omega)]
  rfl
theorem mod_ok {i j : Int} (hj : 0 < j) : binD .mod (.int i) (.int j) = some (.int (i.fmod j)) := if_pos (show j ≠ 0 by omega)
section
variable {P : Prog} {ir iso is il : Nat} {k : Nat} {w : List D}
/-- a draw -/
theorem roll_run (hr : P.fns[ir]? = some f_roll) {m : Int} {n : Nat} (hw : Cup w) (hm : 0 < m) (hl : m < 2 ^ n) (hn : 0 < n) (hn2 : n < 9000) : ∃ (r : Int) (w' : List D), run P (k + 1) ir [.cup, .int m] w = .ok (.int r) w' ∧ 0 ≤ r ∧ r < m ∧ Cup w' := by
  obtain ⟨a, b, rfl, ha, hb, hb2⟩ := hw
  by_cases h : 0 < a
  · refine ⟨a.fmod m, [.int (a.fdiv m), .int b], ?_, Int.fmod_nonneg_of_pos _ hm, Int.fmod_lt_of_pos _ hm, _, _, rfl, Int.fdiv_nonneg ha (Int.le_of_lt hm), hb, hb2⟩
    refine run_ret hr rfl (xs_ret (x_iteT (ev_cmp (ev_idx (ev_var rfl) ev_con rfl) ev_con (congrArg some (decide_eq_true h))) ?_))
    refine xs_cons (x_asg (ev_bin (ev_bi (ev_cons (ev_idx (ev_var rfl) ev_con rfl) ev_nil) rfl) (ev_var rfl) (mod_ok hm)) rfl) ?_
    exact xs_cons (x_setC (ev_bin (ev_idx (ev_var rfl) ev_con rfl) (ev_var rfl) (div_ok hm hl hn hn2)) rfl ev_con rfl) (xs_ret (x_ret (ev_var rfl)))
  · have e : a = 0 := by omega
    subst e
    have c1 := Int.fmod_nonneg_of_pos (b * 29347 + 9719) (b := 2147483543) (by decide)
    have c2 := Int.fmod_lt_of_pos (b * 29347 + 9719) (b := 2147483543) (by decide)
    generalize hc : (b * 29347 + 9719).fmod 2147483543 = c at c1 c2
    refine ⟨((((c * (c + 347)).fmod 2147483587).fdiv 941)).fmod m, [.int 0, .int c], ?_, Int.fmod_nonneg_of_pos _ hm, Int.fmod_lt_of_pos _ hm, _, _, rfl, by omega, c1, by omega⟩
    refine run_ret hr rfl (xs_cons (x_iteF (ev_cmp (ev_idx (ev_var rfl) ev_con rfl) ev_con (congrArg some (decide_eq_false h))) xs_nil) ?_)
    refine xs_cons (x_setC (v := .int c) (ev_bin (ev_bi (ev_cons (ev_bin (ev_bin (ev_idx (ev_var rfl) ev_con rfl) ev_con (mul_ok (n := 31) (m := 15) hb (by decide) (by omega) (by decide) (by decide) (by decide) (by decide))) ev_con rfl) ev_nil) rfl) ev_con ?_) rfl ev_con rfl) ?_
    · rw [← hc]
      exact mod_ok (by decide)
    refine xs_cons (x_asg (ev_bin (ev_bi (ev_cons (ev_bin (ev_idx (ev_var rfl) ev_con rfl) (ev_bin (ev_idx (ev_var rfl) ev_con rfl) ev_con rfl) (mul_ok (n := 31) (m := 32) c1 (by omega) (by omega) (by omega) (by decide) (by decide) (by decide))) ev_nil) rfl) ev_con (mod_ok (by decide))) rfl) ?_
    exact xs_ret (x_ret (ev_bin (ev_bi (ev_cons (ev_bin (ev_var rfl) ev_con (div_ok (n := 10) (by decide) (by decide) (by decide) (by decide))) ev_nil) rfl) (ev_var rfl) (mod_ok hm)))
theorem roll_cl (hr : P.fns[ir]? = some f_roll) {m : Int} (hw : Cup w) (hm : 0 < m) (hl : m < 2 ^ 200) : ∃ (r : Int) (w' : List D), Cl (run P (k + 1)) ir [.cup, .int m] w (.ok (.int r) w') ∧ 0 ≤ r ∧ r < m ∧ Cup w' := by
  obtain ⟨r, w', e, h1, h2, h3⟩ := roll_run (k := k) hr hw hm hl (by decide) (by decide)
  exact ⟨r, w', ⟨e⟩, h1, h2, h3⟩
theorem ix_nat (xs : List D) (i : Nat) (h : i < xs.length) : idxD (.lst xs) (.int (i : Int)) = some xs[i] := by
  show ((ixN xs.length (i : Int)).bind fun j => xs[j]?) = _
  unfold ixN
  rw [if_pos (by omega), if_pos (by omega)]
  show xs[(i : Int).toNat]? = _
  rw [Int.toNat_natCast]
  exact List.getElem?_eq_getElem h
theorem ix_natT (xs : List D) (i : Nat) (h : i < xs.length) : idxD (.tup xs) (.int (i : Int)) = some xs[i] := ix_nat xs i h
theorem some_cl (hr : P.fns[ir]? = some f_roll) (hs : P.fns[iso]? = some (f_some ir)) {t : D} {xs : List D} (ht : t = .lst xs ∨ t = .tup xs) (hw : Cup w) (h0 : xs ≠ []) (hl : xs.length < 1000000) : ∃ (i : Nat) (x : D) (w' : List D), Cl (run P (k + 2)) iso [.cup, t] w (.ok x w') ∧ xs[i]? = some x ∧ Cup w' := by
  have hp : 0 < xs.length := List.length_pos_iff.mpr h0
  obtain ⟨r, w', e, a, b, c⟩ := roll_run (k := k) (m := (xs.length : Int)) (n := 30) hr hw (by omega) (by omega) (by decide) (by decide)
  obtain ⟨i, rfl⟩ := Int.eq_ofNat_of_zero_le a
  have hi : i < xs.length := by omega
  refine ⟨i, xs[i], w', ⟨run_ret hs rfl (xs_ret (x_ret (ev_idx (ev_var rfl) (ev_call (ev_cons (ev_var rfl) (ev_cons (ev_bi (z := .int xs.length) (ev_cons (ev_var rfl) ev_nil) ?_) ev_nil)) e) ?_)))⟩, List.getElem?_eq_getElem hi, c⟩
  · rcases ht with h | h <;> subst h <;> rfl
  · rcases ht with h | h <;> subst h <;> exact lift_ok (ix_nat xs i hi)
/-! #### comprehensions -/
theorem compL_map {f : D → M D} {g : D → D} : ∀ (xs : List D), (∀ x ∈ xs, f x w = .ok (g x) w) → compL f xs w = .ok (xs.map g) w
  | [], _ => rfl
  | x :: xs, h => bind_ok' (h x List.mem_cons_self) (bind_ok' (compL_map xs fun y hy => h y (List.mem_cons_of_mem _ hy)) rfl)
theorem compIfL_filter {c : D → M Bool} {f : D → M D} {p : D → Bool} {g : D → D} : ∀ (xs : List D), (∀ x ∈ xs, c x w = .ok (p x) w) → (∀ x ∈ xs, p x = true → f x w = .ok (g x) w) → compIfL c f xs w = .ok ((xs.filter p).map g) w
  | [], _, _ => rfl
  | x :: xs, h, h2 => by
    have i := compIfL_filter xs (fun y hy => h y (List.mem_cons_of_mem _ hy)) fun y hy => h2 y (List.mem_cons_of_mem _ hy)
    have hx := h x List.mem_cons_self
    cases e : p x with
    | true =>
      rw [e] at hx
      refine bind_ok' hx (bind_ok' (h2 x List.mem_cons_self e) (bind_ok' i ?_))
      rw [List.filter_cons_of_pos e]
      rfl
    | false =>
      rw [e] at hx
      refine bind_ok' hx ?_
      rw [List.filter_cons_of_neg (by rw [e]; decide)]
      exact i
theorem compIf_none {c : D → M Bool} {f : D → M D} : ∀ (xs : List D), (∀ x ∈ xs, c x w = .ok false w) → compIfL c f xs w = .ok [] w
  | [], _ => rfl
  | x :: xs, h => bind_ok' (h x List.mem_cons_self) (compIf_none xs fun y hy => h y (List.mem_cons_of_mem _ hy))
/-- each item by a draw: what holds of each item -/
theorem compL_inv {f : D → M D} (I : List D → Prop) (Q : D → Prop) : ∀ (xs : List D) (w : List D), I w → (∀ x ∈ xs, ∀ w, I w → ∃ y w', f x w = .ok y w' ∧ Q y ∧ I w') → ∃ ys w', compL f xs w = .ok ys w' ∧ ys.length = xs.length ∧ (∀ y ∈ ys, Q y) ∧ I w'
  | [], w, h, _ => ⟨[], w, rfl, rfl, fun _ h => absurd h List.not_mem_nil, h⟩
  | x :: xs, w, h, st => by
    obtain ⟨y, w1, e1, q1, i1⟩ := st x List.mem_cons_self w h
    obtain ⟨ys, w2, e2, l2, q2, i2⟩ := compL_inv I Q xs w1 i1 fun z hz => st z (List.mem_cons_of_mem _ hz)
    refine ⟨y :: ys, w2, bind_ok' e1 (bind_ok' e2 rfl), by simp [l2], fun z hz => ?_, i2⟩
    rcases List.mem_cons.mp hz with rfl | hz
    · exact q1
    · exact q2 z hz
theorem calm_ok {α : Type} {m : M α} {a : α} {w' : List D} (h : m w = .ok a w') : m.calm w = .ok a w' := by
  unfold M.calm
  rw [h]
theorem few_ok {xs : List D} (h : xs.length < line) : few xs w = .ok () w := by
  unfold few
  rw [if_pos h]
  rfl
section
variable {cl : Nat → List D → M D} {et : Nat → Str × (Nat → Option Str)} {ars : List Nat} {env : Env} {w1 w2 : List D} {it e c : E} {t : T} {s : D} {xs ys : List D}
theorem v_comp (h : Ev cl et ars it env w (.ok s w1)) (hs : isSeq s = some xs) (hl : xs.length < line) (hc : compL (fun d => M.bind (liftO (bindT t d env)) fun env' => (evalE cl et ars e env').calm) xs w1 = .ok ys w2) : Ev cl et ars (.comp e t it) env w (.ok (.lst ys) w2) :=
  ⟨bind_ok' h.1 (bind_ok' (lift_ok hs) (bind_ok' (few_ok hl) (bind_ok' hc rfl)))⟩
theorem v_compIf (h : Ev cl et ars it env w (.ok s w1)) (hs : isSeq s = some xs) (hl : xs.length < line) (hc : compIfL (fun d => M.bind (liftO (bindT t d env)) fun env' => M.bind (evalE cl et ars c env').calm fun x => truth x) (fun d => M.bind (liftO (bindT t d env)) fun env' => (evalE cl et ars e env').calm) xs w1 = .ok ys w2) : Ev cl et ars (.compIf e t it c) env w (.ok (.lst ys) w2) :=
  ⟨bind_ok' h.1 (bind_ok' (lift_ok hs) (bind_ok' (few_ok hl) (bind_ok' hc rfl)))⟩
end
/-! #### the sort of a value, values alike -/
def sortN : D → Int
  | .non => 0 | .bl _ => 1 | .int _ => 2 | .str _ => 3 | .tup _ => 4 | .lst _ => 5 | _ => 6
def plainD : D → Bool
  | .fn _ => false | .cup => false | .exn _ => false | _ => true
theorem sort_cl (hs : P.fns[is]? = some f_sort) {d : D} (h : plainD d = true) : Cl (run P (k + 1)) is [d] w (.ok (.int (sortN d)) w) := by
  refine r_ret hs rfl rfl ?_
  cases d with
  | non => repeat' (first | exact v_con | exact v_nil | refine' v_var ?_ | exact Get.mk rfl | refine' v_cons ?_ ?_ | refine' v_tup ?_ | refine' v_lst ?_ | refine' v_neg ?_ ?_ | refine' v_not ?_ ?_ | refine' v_bin ?_ ?_ ?_ | refine' v_cmp ?_ ?_ ?_ | refine' v_and ?_ ?_ | refine' v_or ?_ ?_ | refine' v_ite ?_ ?_ | refine' v_chain ?_ ?_ ?_ ?_ | refine' v_bi ?_ ?_ | refine' v_idx ?_ ?_ ?_ | refine' v_isi ?_ ?_ | refine' v_slLo ?_ ?_ ?_ | refine' v_slHi ?_ ?_ ?_ | refine' v_slBo ?_ ?_ ?_ ?_ | refine' v_mjoin ?_ ?_ ?_ | refine' v_call ?_ ?_ | refine' v_callv ?_ ?_ ?_ ?_ | refine' v_err ?_ ?_ | exact Tru.mk rfl | refine' AndV.t (Tru.mk rfl) _ _ ?_ | exact AndV.f (Tru.mk rfl) | refine' OrV.f (Tru.mk rfl) _ _ ?_ | exact OrV.t (Tru.mk rfl) | refine' ChV.t (Tru.mk rfl) _ _ _ ?_ ?_ | exact ChV.f (Tru.mk rfl) | refine' IteV.t (Tru.mk rfl) ?_ | refine' IteV.f (Tru.mk rfl) ?_ | refine' IteS.t (Tru.mk rfl) ?_ | refine' IteS.f (Tru.mk rfl) ?_ | exact s_nil | exact s_raise | refine' s_ret ?_ | refine' s_asg ?_ rfl ?_ | refine' s_asg ?_ ?_ ?_ | (show VI.bindT _ _ _ = some _; rfl) | refine' s_par ?_ ?_ ?_ | refine' s_expr ?_ ?_ | refine' s_ite ?_ ?_ | refine' s_app ?_ ?_ ?_ ?_ | refine' q_nil ?_ | refine' q_ret ?_ | exact q_raise | refine' q_asg ?_ rfl ?_ | refine' q_asg ?_ ?_ ?_ | refine' q_par ?_ ?_ ?_ | refine' q_expr ?_ ?_ | refine' q_ite ?_ | exact o_add | exact o_sub | refine' o_mul ?_ | refine' o_fdiv ?_ | refine' o_mod ?_ | exact o_neg | exact o_abs | exact o_int | exact o_gcd | exact o_lenT | exact o_lenL | exact o_eqI | exact o_ltI | exact o_leI | exact o_gtI | exact o_geI | exact o_neI | (show VI.setParts _ _ _ = some _; rfl) | (show VI.isSeq _ = some _; rfl) | exact Bop.mk rfl | exact Cop.mk rfl | exact Bin.mk rfl | exact Ngd.mk rfl | exact Isd.mk rfl | exact Idx.mk rfl | exact Ctd.mk rfl | exact Jnd.mk rfl)
  | bl b => repeat' (first | exact v_con | exact v_nil | refine' v_var ?_ | exact Get.mk rfl | refine' v_cons ?_ ?_ | refine' v_tup ?_ | refine' v_lst ?_ | refine' v_neg ?_ ?_ | refine' v_not ?_ ?_ | refine' v_bin ?_ ?_ ?_ | refine' v_cmp ?_ ?_ ?_ | refine' v_and ?_ ?_ | refine' v_or ?_ ?_ | refine' v_ite ?_ ?_ | refine' v_chain ?_ ?_ ?_ ?_ | refine' v_bi ?_ ?_ | refine' v_idx ?_ ?_ ?_ | refine' v_isi ?_ ?_ | refine' v_slLo ?_ ?_ ?_ | refine' v_slHi ?_ ?_ ?_ | refine' v_slBo ?_ ?_ ?_ ?_ | refine' v_mjoin ?_ ?_ ?_ | refine' v_call ?_ ?_ | refine' v_callv ?_ ?_ ?_ ?_ | refine' v_err ?_ ?_ | exact Tru.mk rfl | refine' AndV.t (Tru.mk rfl) _ _ ?_ | exact AndV.f (Tru.mk rfl) | refine' OrV.f (Tru.mk rfl) _ _ ?_ | exact OrV.t (Tru.mk rfl) | refine' ChV.t (Tru.mk rfl) _ _ _ ?_ ?_ | exact ChV.f (Tru.mk rfl) | refine' IteV.t (Tru.mk rfl) ?_ | refine' IteV.f (Tru.mk rfl) ?_ | refine' IteS.t (Tru.mk rfl) ?_ | refine' IteS.f (Tru.mk rfl) ?_ | exact s_nil | exact s_raise | refine' s_ret ?_ | refine' s_asg ?_ rfl ?_ | refine' s_asg ?_ ?_ ?_ | (show VI.bindT _ _ _ = some _; rfl) | refine' s_par ?_ ?_ ?_ | refine' s_expr ?_ ?_ | refine' s_ite ?_ ?_ | refine' s_app ?_ ?_ ?_ ?_ | refine' q_nil ?_ | refine' q_ret ?_ | exact q_raise | refine' q_asg ?_ rfl ?_ | refine' q_asg ?_ ?_ ?_ | refine' q_par ?_ ?_ ?_ | refine' q_expr ?_ ?_ | refine' q_ite ?_ | exact o_add | exact o_sub | refine' o_mul ?_ | refine' o_fdiv ?_ | refine' o_mod ?_ | exact o_neg | exact o_abs | exact o_int | exact o_gcd | exact o_lenT | exact o_lenL | exact o_eqI | exact o_ltI | exact o_leI | exact o_gtI | exact o_geI | exact o_neI | (show VI.setParts _ _ _ = some _; rfl) | (show VI.isSeq _ = some _; rfl) | exact Bop.mk rfl | exact Cop.mk rfl | exact Bin.mk rfl | exact Ngd.mk rfl | exact Isd.mk rfl | exact Idx.mk rfl | exact Ctd.mk rfl | exact Jnd.mk rfl)
  | int i => repeat' (first | exact v_con | exact v_nil | refine' v_var ?_ | exact Get.mk rfl | refine' v_cons ?_ ?_ | refine' v_tup ?_ | refine' v_lst ?_ | refine' v_neg ?_ ?_ | refine' v_not ?_ ?_ | refine' v_bin ?_ ?_ ?_ | refine' v_cmp ?_ ?_ ?_ | refine' v_and ?_ ?_ | refine' v_or ?_ ?_ | refine' v_ite ?_ ?_ | refine' v_chain ?_ ?_ ?_ ?_ | refine' v_bi ?_ ?_ | refine' v_idx ?_ ?_ ?_ | refine' v_isi ?_ ?_ | refine' v_slLo ?_ ?_ ?_ | refine' v_slHi ?_ ?_ ?_ | refine' v_slBo ?_ ?_ ?_ ?_ | refine' v_mjoin ?_ ?_ ?_ | refine' v_call ?_ ?_ | refine' v_callv ?_ ?_ ?_ ?_ | refine' v_err ?_ ?_ | exact Tru.mk rfl | refine' AndV.t (Tru.mk rfl) _ _ ?_ | exact AndV.f (Tru.mk rfl) | refine' OrV.f (Tru.mk rfl) _ _ ?_ | exact OrV.t (Tru.mk rfl) | refine' ChV.t (Tru.mk rfl) _ _ _ ?_ ?_ | exact ChV.f (Tru.mk rfl) | refine' IteV.t (Tru.mk rfl) ?_ | refine' IteV.f (Tru.mk rfl) ?_ | refine' IteS.t (Tru.mk rfl) ?_ | refine' IteS.f (Tru.mk rfl) ?_ | exact s_nil | exact s_raise | refine' s_ret ?_ | refine' s_asg ?_ rfl ?_ | refine' s_asg ?_ ?_ ?_ | (show VI.bindT _ _ _ = some _; rfl) | refine' s_par ?_ ?_ ?_ | refine' s_expr ?_ ?_ | refine' s_ite ?_ ?_ | refine' s_app ?_ ?_ ?_ ?_ | refine' q_nil ?_ | refine' q_ret ?_ | exact q_raise | refine' q_asg ?_ rfl ?_ | refine' q_asg ?_ ?_ ?_ | refine' q_par ?_ ?_ ?_ | refine' q_expr ?_ ?_ | refine' q_ite ?_ | exact o_add | exact o_sub | refine' o_mul ?_ | refine' o_fdiv ?_ | refine' o_mod ?_ | exact o_neg | exact o_abs | exact o_int | exact o_gcd | exact o_lenT | exact o_lenL | exact o_eqI | exact o_ltI | exact o_leI | exact o_gtI | exact o_geI | exact o_neI | (show VI.setParts _ _ _ = some _; rfl) | (show VI.isSeq _ = some _; rfl) | exact Bop.mk rfl | exact Cop.mk rfl | exact Bin.mk rfl | exact Ngd.mk rfl | exact Isd.mk rfl | exact Idx.mk rfl | exact Ctd.mk rfl | exact Jnd.mk rfl)
  | str s => repeat' (first | exact v_con | exact v_nil | refine' v_var ?_ | exact Get.mk rfl | refine' v_cons ?_ ?_ | refine' v_tup ?_ | refine' v_lst ?_ | refine' v_neg ?_ ?_ | refine' v_not ?_ ?_ | refine' v_bin ?_ ?_ ?_ | refine' v_cmp ?_ ?_ ?_ | refine' v_and ?_ ?_ | refine' v_or ?_ ?_ | refine' v_ite ?_ ?_ | refine' v_chain ?_ ?_ ?_ ?_ | refine' v_bi ?_ ?_ | refine' v_idx ?_ ?_ ?_ | refine' v_isi ?_ ?_ | refine' v_slLo ?_ ?_ ?_ | refine' v_slHi ?_ ?_ ?_ | refine' v_slBo ?_ ?_ ?_ ?_ | refine' v_mjoin ?_ ?_ ?_ | refine' v_call ?_ ?_ | refine' v_callv ?_ ?_ ?_ ?_ | refine' v_err ?_ ?_ | exact Tru.mk rfl | refine' AndV.t (Tru.mk rfl) _ _ ?_ | exact AndV.f (Tru.mk rfl) | refine' OrV.f (Tru.mk rfl) _ _ ?_ | exact OrV.t (Tru.mk rfl) | refine' ChV.t (Tru.mk rfl) _ _ _ ?_ ?_ | exact ChV.f (Tru.mk rfl) | refine' IteV.t (Tru.mk rfl) ?_ | refine' IteV.f (Tru.mk rfl) ?_ | refine' IteS.t (Tru.mk rfl) ?_ | refine' IteS.f (Tru.mk rfl) ?_ | exact s_nil | exact s_raise | refine' s_ret ?_ | refine' s_asg ?_ rfl ?_ | refine' s_asg ?_ ?_ ?_ | (show VI.bindT _ _ _ = some _; rfl) | refine' s_par ?_ ?_ ?_ | refine' s_expr ?_ ?_ | refine' s_ite ?_ ?_ | refine' s_app ?_ ?_ ?_ ?_ | refine' q_nil ?_ | refine' q_ret ?_ | exact q_raise | refine' q_asg ?_ rfl ?_ | refine' q_asg ?_ ?_ ?_ | refine' q_par ?_ ?_ ?_ | refine' q_expr ?_ ?_ | refine' q_ite ?_ | exact o_add | exact o_sub | refine' o_mul ?_ | refine' o_fdiv ?_ | refine' o_mod ?_ | exact o_neg | exact o_abs | exact o_int | exact o_gcd | exact o_lenT | exact o_lenL | exact o_eqI | exact o_ltI | exact o_leI | exact o_gtI | exact o_geI | exact o_neI | (show VI.setParts _ _ _ = some _; rfl) | (show VI.isSeq _ = some _; rfl) | exact Bop.mk rfl | exact Cop.mk rfl | exact Bin.mk rfl | exact Ngd.mk rfl | exact Isd.mk rfl | exact Idx.mk rfl | exact Ctd.mk rfl | exact Jnd.mk rfl)
  | tup xs => repeat' (first | exact v_con | exact v_nil | refine' v_var ?_ | exact Get.mk rfl | refine' v_cons ?_ ?_ | refine' v_tup ?_ | refine' v_lst ?_ | refine' v_neg ?_ ?_ | refine' v_not ?_ ?_ | refine' v_bin ?_ ?_ ?_ | refine' v_cmp ?_ ?_ ?_ | refine' v_and ?_ ?_ | refine' v_or ?_ ?_ | refine' v_ite ?_ ?_ | refine' v_chain ?_ ?_ ?_ ?_ | refine' v_bi ?_ ?_ | refine' v_idx ?_ ?_ ?_ | refine' v_isi ?_ ?_ | refine' v_slLo ?_ ?_ ?_ | refine' v_slHi ?_ ?_ ?_ | refine' v_slBo ?_ ?_ ?_ ?_ | refine' v_mjoin ?_ ?_ ?_ | refine' v_call ?_ ?_ | refine' v_callv ?_ ?_ ?_ ?_ | refine' v_err ?_ ?_ | exact Tru.mk rfl | refine' AndV.t (Tru.mk rfl) _ _ ?_ | exact AndV.f (Tru.mk rfl) | refine' OrV.f (Tru.mk rfl) _ _ ?_ | exact OrV.t (Tru.mk rfl) | refine' ChV.t (Tru.mk rfl) _ _ _ ?_ ?_ | exact ChV.f (Tru.mk rfl) | refine' IteV.t (Tru.mk rfl) ?_ | refine' IteV.f (Tru.mk rfl) ?_ | refine' IteS.t (Tru.mk rfl) ?_ | refine' IteS.f (Tru.mk rfl) ?_ | exact s_nil | exact s_raise | refine' s_ret ?_ | refine' s_asg ?_ rfl ?_ | refine' s_asg ?_ ?_ ?_ | (show VI.bindT _ _ _ = some _; rfl) | refine' s_par ?_ ?_ ?_ | refine' s_expr ?_ ?_ | refine' s_ite ?_ ?_ | refine' s_app ?_ ?_ ?_ ?_ | refine' q_nil ?_ | refine' q_ret ?_ | exact q_raise | refine' q_asg ?_ rfl ?_ | refine' q_asg ?_ ?_ ?_ | refine' q_par ?_ ?_ ?_ | refine' q_expr ?_ ?_ | refine' q_ite ?_ | exact o_add | exact o_sub | refine' o_mul ?_ | refine' o_fdiv ?_ | refine' o_mod ?_ | exact o_neg | exact o_abs | exact o_int | exact o_gcd | exact o_lenT | exact o_lenL | exact o_eqI | exact o_ltI | exact o_leI | exact o_gtI | exact o_geI | exact o_neI | (show VI.setParts _ _ _ = some _; rfl) | (show VI.isSeq _ = some _; rfl) | exact Bop.mk rfl | exact Cop.mk rfl | exact Bin.mk rfl | exact Ngd.mk rfl | exact Isd.mk rfl | exact Idx.mk rfl | exact Ctd.mk rfl | exact Jnd.mk rfl)
  | lst xs => repeat' (first | exact v_con | exact v_nil | refine' v_var ?_ | exact Get.mk rfl | refine' v_cons ?_ ?_ | refine' v_tup ?_ | refine' v_lst ?_ | refine' v_neg ?_ ?_ | refine' v_not ?_ ?_ | refine' v_bin ?_ ?_ ?_ | refine' v_cmp ?_ ?_ ?_ | refine' v_and ?_ ?_ | refine' v_or ?_ ?_ | refine' v_ite ?_ ?_ | refine' v_chain ?_ ?_ ?_ ?_ | refine' v_bi ?_ ?_ | refine' v_idx ?_ ?_ ?_ | refine' v_isi ?_ ?_ | refine' v_slLo ?_ ?_ ?_ | refine' v_slHi ?_ ?_ ?_ | refine' v_slBo ?_ ?_ ?_ ?_ | refine' v_mjoin ?_ ?_ ?_ | refine' v_call ?_ ?_ | refine' v_callv ?_ ?_ ?_ ?_ | refine' v_err ?_ ?_ | exact Tru.mk rfl | refine' AndV.t (Tru.mk rfl) _ _ ?_ | exact AndV.f (Tru.mk rfl) | refine' OrV.f (Tru.mk rfl) _ _ ?_ | exact OrV.t (Tru.mk rfl) | refine' ChV.t (Tru.mk rfl) _ _ _ ?_ ?_ | exact ChV.f (Tru.mk rfl) | refine' IteV.t (Tru.mk rfl) ?_ | refine' IteV.f (Tru.mk rfl) ?_ | refine' IteS.t (Tru.mk rfl) ?_ | refine' IteS.f (Tru.mk rfl) ?_ | exact s_nil | exact s_raise | refine' s_ret ?_ | refine' s_asg ?_ rfl ?_ | refine' s_asg ?_ ?_ ?_ | (show VI.bindT _ _ _ = some _; rfl) | refine' s_par ?_ ?_ ?_ | refine' s_expr ?_ ?_ | refine' s_ite ?_ ?_ | refine' s_app ?_ ?_ ?_ ?_ | refine' q_nil ?_ | refine' q_ret ?_ | exact q_raise | refine' q_asg ?_ rfl ?_ | refine' q_asg ?_ ?_ ?_ | refine' q_par ?_ ?_ ?_ | refine' q_expr ?_ ?_ | refine' q_ite ?_ | exact o_add | exact o_sub | refine' o_mul ?_ | refine' o_fdiv ?_ | refine' o_mod ?_ | exact o_neg | exact o_abs | exact o_int | exact o_gcd | exact o_lenT | exact o_lenL | exact o_eqI | exact o_ltI | exact o_leI | exact o_gtI | exact o_geI | exact o_neI | (show VI.setParts _ _ _ = some _; rfl) | (show VI.isSeq _ = some _; rfl) | exact Bop.mk rfl | exact Cop.mk rfl | exact Bin.mk rfl | exact Ngd.mk rfl | exact Isd.mk rfl | exact Idx.mk rfl | exact Ctd.mk rfl | exact Jnd.mk rfl)
  | fn i => cases h
  | cup => cases h
  | exn i => cases h
/-- whole numbers, truths, and what is made of these, not deep -/
def dep : Nat → D → Bool
  | _, .non => true
  | _, .bl _ => true
  | _, .int _ => true
  | n + 1, .tup xs => decide (xs.length < line) && xs.all (dep n)
  | n + 1, .lst xs => decide (xs.length < line) && xs.all (dep n)
  | _, _ => false
theorem dep_plain {n : Nat} {d : D} (h : dep n d = true) : plainD d = true := by
  cases d <;> first | rfl | (cases n <;> simp [dep] at h)
theorem zip_self : ∀ (xs : List D), (xs.zip xs).map (fun p => D.tup [p.1, p.2]) = xs.map fun x => .tup [x, x]
  | [] => rfl
  | x :: xs => by simp only [List.zip_cons_cons, List.map_cons]; rw [zip_self xs]
theorem like_seq (hs : P.fns[is]? = some f_sort) (hl : P.fns[il]? = some (f_like is il)) {xs : List D} {d : D} (hd : d = .tup xs ∨ d = .lst xs) (hn : xs.length < line) (ih : ∀ x ∈ xs, Cl (run P (k + 1)) il [x, x] w (.ok (.bl true) w)) : Cl (run P (k + 2)) il [d, d] w (.ok (.bl true) w) := by
  refine r_ret hl rfl rfl ?_
  have hp : plainD d = true := by rcases hd with h | h <;> subst h <;> rfl
  have z : Bin .zip [d, d] (.lst (xs.map fun x => .tup [x, x])) := by
    rw [← zip_self]
    rcases hd with h | h <;> subst h <;> exact ⟨rfl⟩
  have ln : Bin .len [d] (.int xs.length) := by rcases hd with h | h <;> subst h <;> exact ⟨rfl⟩
  have srt : ∀ w, Cl (run P (k + 1)) is [d] w (.ok (.int (sortN d)) w) := fun w => sort_cl hs hp
  have ne : Cop .ne (.int (sortN d)) (.int (sortN d)) false := ⟨congrArg (fun b => some (!b)) (decide_eq_true rfl)⟩
  have e6 : Cop .eq (.int (sortN d)) (.int 6) false := by rcases hd with h | h <;> subst h <;> exact ⟨rfl⟩
  have e45 : Cop .inn (.int (sortN d)) (.tup [.int 4, .int 5]) true := by rcases hd with h | h <;> subst h <;> exact ⟨rfl⟩
  have eln : Cop .eq (.int (xs.length : Int)) (.int (xs.length : Int)) true := ⟨congrArg some (decide_eq_true rfl)⟩
  have lz : (xs.map fun x => D.tup [x, x]).length < line := by rw [List.length_map]; exact hn
  have hc : Ev (run P (k + 1)) (etOf P) (P.fns.map Fn.ar) (.compIf (.con (.int 1)) (.tp (.cons (.nm 3) (.cons (.nm 4) .nil))) (.bi .zip (.cons (.var 0) (.cons (.var 1) .nil))) (.not (.call il (.cons (.var 3) (.cons (.var 4) .nil))))) [some d, some d, some (.int (sortN d)), none, none] w (.ok (.lst []) w) :=
    v_compIf (s := .lst (xs.map fun x => D.tup [x, x])) (xs := xs.map fun x => D.tup [x, x]) (by repeat' (first | exact z | exact v_con | exact v_nil | refine' v_var ?_ | exact Get.mk rfl | refine' v_cons ?_ ?_ | refine' v_tup ?_ | refine' v_lst ?_ | refine' v_neg ?_ ?_ | refine' v_not ?_ ?_ | refine' v_bin ?_ ?_ ?_ | refine' v_cmp ?_ ?_ ?_ | refine' v_and ?_ ?_ | refine' v_or ?_ ?_ | refine' v_ite ?_ ?_ | refine' v_chain ?_ ?_ ?_ ?_ | refine' v_bi ?_ ?_ | refine' v_idx ?_ ?_ ?_ | refine' v_isi ?_ ?_ | refine' v_slLo ?_ ?_ ?_ | refine' v_slHi ?_ ?_ ?_ | refine' v_slBo ?_ ?_ ?_ ?_ | refine' v_mjoin ?_ ?_ ?_ | refine' v_call ?_ ?_ | refine' v_callv ?_ ?_ ?_ ?_ | refine' v_err ?_ ?_ | exact Tru.mk rfl | refine' AndV.t (Tru.mk rfl) _ _ ?_ | exact AndV.f (Tru.mk rfl) | refine' OrV.f (Tru.mk rfl) _ _ ?_ | exact OrV.t (Tru.mk rfl) | refine' ChV.t (Tru.mk rfl) _ _ _ ?_ ?_ | exact ChV.f (Tru.mk rfl) | refine' IteV.t (Tru.mk rfl) ?_ | refine' IteV.f (Tru.mk rfl) ?_ | refine' IteS.t (Tru.mk rfl) ?_ | refine' IteS.f (Tru.mk rfl) ?_ | exact s_nil | exact s_raise | refine' s_ret ?_ | refine' s_asg ?_ rfl ?_ | refine' s_asg ?_ ?_ ?_ | (show VI.bindT _ _ _ = some _; rfl) | refine' s_par ?_ ?_ ?_ | refine' s_expr ?_ ?_ | refine' s_ite ?_ ?_ | refine' s_app ?_ ?_ ?_ ?_ | refine' q_nil ?_ | refine' q_ret ?_ | exact q_raise | refine' q_asg ?_ rfl ?_ | refine' q_asg ?_ ?_ ?_ | refine' q_par ?_ ?_ ?_ | refine' q_expr ?_ ?_ | refine' q_ite ?_ | exact o_add | exact o_sub | refine' o_mul ?_ | refine' o_fdiv ?_ | refine' o_mod ?_ | exact o_neg | exact o_abs | exact o_int | exact o_gcd | exact o_lenT | exact o_lenL | exact o_eqI | exact o_ltI | exact o_leI | exact o_gtI | exact o_geI | exact o_neI | (show VI.setParts _ _ _ = some _; rfl) | (show VI.isSeq _ = some _; rfl) | exact Bop.mk rfl | exact Cop.mk rfl | exact Bin.mk rfl | exact Ngd.mk rfl | exact Isd.mk rfl | exact Idx.mk rfl | exact Ctd.mk rfl | exact Jnd.mk rfl)) rfl lz (compIf_none _ fun y hy => by
      obtain ⟨x, hx, rfl⟩ := List.mem_map.mp hy
      refine bind_ok' (w1 := w) (a := [some d, some d, some (.int (sortN d)), some x, some x]) rfl (bind_ok' (a := .bl false) (w1 := w) (calm_ok (Ev.q ?_)) rfl)
      have := ih x hx
      repeat' (first | exact this | exact v_con | exact v_nil | refine' v_var ?_ | exact Get.mk rfl | refine' v_cons ?_ ?_ | refine' v_tup ?_ | refine' v_lst ?_ | refine' v_neg ?_ ?_ | refine' v_not ?_ ?_ | refine' v_bin ?_ ?_ ?_ | refine' v_cmp ?_ ?_ ?_ | refine' v_and ?_ ?_ | refine' v_or ?_ ?_ | refine' v_ite ?_ ?_ | refine' v_chain ?_ ?_ ?_ ?_ | refine' v_bi ?_ ?_ | refine' v_idx ?_ ?_ ?_ | refine' v_isi ?_ ?_ | refine' v_slLo ?_ ?_ ?_ | refine' v_slHi ?_ ?_ ?_ | refine' v_slBo ?_ ?_ ?_ ?_ | refine' v_mjoin ?_ ?_ ?_ | refine' v_call ?_ ?_ | refine' v_callv ?_ ?_ ?_ ?_ | refine' v_err ?_ ?_ | exact Tru.mk rfl | refine' AndV.t (Tru.mk rfl) _ _ ?_ | exact AndV.f (Tru.mk rfl) | refine' OrV.f (Tru.mk rfl) _ _ ?_ | exact OrV.t (Tru.mk rfl) | refine' ChV.t (Tru.mk rfl) _ _ _ ?_ ?_ | exact ChV.f (Tru.mk rfl) | refine' IteV.t (Tru.mk rfl) ?_ | refine' IteV.f (Tru.mk rfl) ?_ | refine' IteS.t (Tru.mk rfl) ?_ | refine' IteS.f (Tru.mk rfl) ?_ | exact s_nil | exact s_raise | refine' s_ret ?_ | refine' s_asg ?_ rfl ?_ | refine' s_asg ?_ ?_ ?_ | (show VI.bindT _ _ _ = some _; rfl) | refine' s_par ?_ ?_ ?_ | refine' s_expr ?_ ?_ | refine' s_ite ?_ ?_ | refine' s_app ?_ ?_ ?_ ?_ | refine' q_nil ?_ | refine' q_ret ?_ | exact q_raise | refine' q_asg ?_ rfl ?_ | refine' q_asg ?_ ?_ ?_ | refine' q_par ?_ ?_ ?_ | refine' q_expr ?_ ?_ | refine' q_ite ?_ | exact o_add | exact o_sub | refine' o_mul ?_ | refine' o_fdiv ?_ | refine' o_mod ?_ | exact o_neg | exact o_abs | exact o_int | exact o_gcd | exact o_lenT | exact o_lenL | exact o_eqI | exact o_ltI | exact o_leI | exact o_gtI | exact o_geI | exact o_neI | (show VI.setParts _ _ _ = some _; rfl) | (show VI.isSeq _ = some _; rfl) | exact Bop.mk rfl | exact Cop.mk rfl | exact Bin.mk rfl | exact Ngd.mk rfl | exact Isd.mk rfl | exact Idx.mk rfl | exact Ctd.mk rfl | exact Jnd.mk rfl))
  repeat' (first | exact srt _ | exact ne | exact e6 | exact e45 | exact ln | exact eln | exact hc | exact v_con | exact v_nil | refine' v_var ?_ | exact Get.mk rfl | refine' v_cons ?_ ?_ | refine' v_tup ?_ | refine' v_lst ?_ | refine' v_neg ?_ ?_ | refine' v_not ?_ ?_ | refine' v_bin ?_ ?_ ?_ | refine' v_cmp ?_ ?_ ?_ | refine' v_and ?_ ?_ | refine' v_or ?_ ?_ | refine' v_ite ?_ ?_ | refine' v_chain ?_ ?_ ?_ ?_ | refine' v_bi ?_ ?_ | refine' v_idx ?_ ?_ ?_ | refine' v_isi ?_ ?_ | refine' v_slLo ?_ ?_ ?_ | refine' v_slHi ?_ ?_ ?_ | refine' v_slBo ?_ ?_ ?_ ?_ | refine' v_mjoin ?_ ?_ ?_ | refine' v_call ?_ ?_ | refine' v_callv ?_ ?_ ?_ ?_ | refine' v_err ?_ ?_ | exact Tru.mk rfl | refine' AndV.t (Tru.mk rfl) _ _ ?_ | exact AndV.f (Tru.mk rfl) | refine' OrV.f (Tru.mk rfl) _ _ ?_ | exact OrV.t (Tru.mk rfl) | refine' ChV.t (Tru.mk rfl) _ _ _ ?_ ?_ | exact ChV.f (Tru.mk rfl) | refine' IteV.t (Tru.mk rfl) ?_ | refine' IteV.f (Tru.mk rfl) ?_ | refine' IteS.t (Tru.mk rfl) ?_ | refine' IteS.f (Tru.mk rfl) ?_ | exact s_nil | exact s_raise | refine' s_ret ?_ | refine' s_asg ?_ rfl ?_ | refine' s_asg ?_ ?_ ?_ | (show VI.bindT _ _ _ = some _; rfl) | refine' s_par ?_ ?_ ?_ | refine' s_expr ?_ ?_ | refine' s_ite ?_ ?_ | refine' s_app ?_ ?_ ?_ ?_ | refine' q_nil ?_ | refine' q_ret ?_ | exact q_raise | refine' q_asg ?_ rfl ?_ | refine' q_asg ?_ ?_ ?_ | refine' q_par ?_ ?_ ?_ | refine' q_expr ?_ ?_ | refine' q_ite ?_ | exact o_add | exact o_sub | refine' o_mul ?_ | refine' o_fdiv ?_ | refine' o_mod ?_ | exact o_neg | exact o_abs | exact o_int | exact o_gcd | exact o_lenT | exact o_lenL | exact o_eqI | exact o_ltI | exact o_leI | exact o_gtI | exact o_geI | exact o_neI | (show VI.setParts _ _ _ = some _; rfl) | (show VI.isSeq _ = some _; rfl) | exact Bop.mk rfl | exact Cop.mk rfl | exact Bin.mk rfl | exact Ngd.mk rfl | exact Isd.mk rfl | exact Idx.mk rfl | exact Ctd.mk rfl | exact Jnd.mk rfl)
theorem like_atom (hs : P.fns[is]? = some f_sort) (hl : P.fns[il]? = some (f_like is il)) {d : D} (hd : dep 0 d = true) : Cl (run P (k + 2)) il [d, d] w (.ok (.bl true) w) := by
  refine r_ret hl rfl rfl ?_
  have srt : ∀ w, Cl (run P (k + 1)) is [d] w (.ok (.int (sortN d)) w) := fun w => sort_cl hs (dep_plain hd)
  have ne : Cop .ne (.int (sortN d)) (.int (sortN d)) false := ⟨congrArg (fun b => some (!b)) (decide_eq_true rfl)⟩
  have e6 : Cop .eq (.int (sortN d)) (.int 6) false := by cases d <;> first | exact ⟨rfl⟩ | cases hd
  have e45 : Cop .inn (.int (sortN d)) (.tup [.int 4, .int 5]) false := by cases d <;> first | exact ⟨rfl⟩ | cases hd
  have e : Cop .eq d d true := by
    cases d with
    | non => exact ⟨rfl⟩
    | bl b => cases b <;> exact ⟨rfl⟩
    | int i => exact ⟨congrArg some (decide_eq_true rfl)⟩
    | _ => cases hd
  repeat' (first | exact srt _ | exact ne | exact e6 | exact e45 | exact e | exact v_con | exact v_nil | refine' v_var ?_ | exact Get.mk rfl | refine' v_cons ?_ ?_ | refine' v_tup ?_ | refine' v_lst ?_ | refine' v_neg ?_ ?_ | refine' v_not ?_ ?_ | refine' v_bin ?_ ?_ ?_ | refine' v_cmp ?_ ?_ ?_ | refine' v_and ?_ ?_ | refine' v_or ?_ ?_ | refine' v_ite ?_ ?_ | refine' v_chain ?_ ?_ ?_ ?_ | refine' v_bi ?_ ?_ | refine' v_idx ?_ ?_ ?_ | refine' v_isi ?_ ?_ | refine' v_slLo ?_ ?_ ?_ | refine' v_slHi ?_ ?_ ?_ | refine' v_slBo ?_ ?_ ?_ ?_ | refine' v_mjoin ?_ ?_ ?_ | refine' v_call ?_ ?_ | refine' v_callv ?_ ?_ ?_ ?_ | refine' v_err ?_ ?_ | exact Tru.mk rfl | refine' AndV.t (Tru.mk rfl) _ _ ?_ | exact AndV.f (Tru.mk rfl) | refine' OrV.f (Tru.mk rfl) _ _ ?_ | exact OrV.t (Tru.mk rfl) | refine' ChV.t (Tru.mk rfl) _ _ _ ?_ ?_ | exact ChV.f (Tru.mk rfl) | refine' IteV.t (Tru.mk rfl) ?_ | refine' IteV.f (Tru.mk rfl) ?_ | refine' IteS.t (Tru.mk rfl) ?_ | refine' IteS.f (Tru.mk rfl) ?_ | exact s_nil | exact s_raise | refine' s_ret ?_ | refine' s_asg ?_ rfl ?_ | refine' s_asg ?_ ?_ ?_ | (show VI.bindT _ _ _ = some _; rfl) | refine' s_par ?_ ?_ ?_ | refine' s_expr ?_ ?_ | refine' s_ite ?_ ?_ | refine' s_app ?_ ?_ ?_ ?_ | refine' q_nil ?_ | refine' q_ret ?_ | exact q_raise | refine' q_asg ?_ rfl ?_ | refine' q_asg ?_ ?_ ?_ | refine' q_par ?_ ?_ ?_ | refine' q_expr ?_ ?_ | refine' q_ite ?_ | exact o_add | exact o_sub | refine' o_mul ?_ | refine' o_fdiv ?_ | refine' o_mod ?_ | exact o_neg | exact o_abs | exact o_int | exact o_gcd | exact o_lenT | exact o_lenL | exact o_eqI | exact o_ltI | exact o_leI | exact o_gtI | exact o_geI | exact o_neI | (show VI.setParts _ _ _ = some _; rfl) | (show VI.isSeq _ = some _; rfl) | exact Bop.mk rfl | exact Cop.mk rfl | exact Bin.mk rfl | exact Ngd.mk rfl | exact Isd.mk rfl | exact Idx.mk rfl | exact Ctd.mk rfl | exact Jnd.mk rfl)
theorem like_cl (hs : P.fns[is]? = some f_sort) (hl : P.fns[il]? = some (f_like is il)) : ∀ (n : Nat) (d : D), dep n d = true → Cl (run P (k + n + 2)) il [d, d] w (.ok (.bl true) w)
  | 0, d, h => like_atom hs hl h
  | n + 1, d, h => by
    match d, h with
    | .non, _ => exact like_atom (d := .non) (k := k + (n + 1)) hs hl rfl
    | .bl b, _ => exact like_atom (d := .bl b) (k := k + (n + 1)) hs hl rfl
    | .int i, _ => exact like_atom (d := .int i) (k := k + (n + 1)) hs hl rfl
    | .tup xs, h =>
      simp only [dep, Bool.and_eq_true, decide_eq_true_eq, List.all_eq_true] at h
      exact like_seq (k := k + (n + 1)) hs hl (.inl rfl) h.1 fun x hx => like_cl hs hl n x (h.2 x hx)
    | .lst xs, h =>
      simp only [dep, Bool.and_eq_true, decide_eq_true_eq, List.all_eq_true] at h
      exact like_seq (k := k + (n + 1)) hs hl (.inr rfl) h.1 fun x hx => like_cl hs hl n x (h.2 x hx)
end
end VI.B
end
section
set_option maxRecDepth 100000
set_option maxHeartbeats 0
namespace K28H
open PySem PySem.Spec PyProof.Rows L2 K28 VI
theorem okA : okAll G PR defs [d__law_error] = true := by decide +kernel
theorem okC : okCup G d__law_cup = true := by decide +kernel
theorem okL : okLaw G d_law lawBody = true := by decide +kernel
theorem bindF : ∀ (i : Nat) (x : Str) (n : Nat) (d : DefT), G.fns[i]? = some (x, n) → defs[i]? = some d → BindD x d := by
  intro i x n d h1 h2
  match i with
  | 0 =>
    cases h1
    cases h2
    exact fun _ _ _ _ _ _ us hl => match us, hl with | [_, _, _], _ => rfl
  | 1 =>
    cases h1
    cases h2
    exact fun _ _ _ _ _ _ us hl => match us, hl with | [_, _, _], _ => rfl
  | 2 =>
    cases h1
    cases h2
    exact fun _ _ _ _ _ _ us hl => match us, hl with | [_, _, _], _ => rfl
  | 3 =>
    cases h1
    cases h2
    exact fun _ _ _ _ _ _ us hl => match us, hl with | [_], _ => rfl
  | 4 =>
    cases h1
    cases h2
    exact fun _ _ _ _ _ _ us hl => match us, hl with | [_, _], _ => rfl
  | 5 =>
    cases h1
    cases h2
    exact fun _ _ _ _ _ _ us hl => match us, hl with | [_, _], _ => rfl
  | 6 =>
    cases h1
    cases h2
    exact fun _ _ _ _ _ _ us hl => match us, hl with | [_, _], _ => rfl
  | 7 =>
    cases h1
    cases h2
    exact fun _ _ _ _ _ _ us hl => match us, hl with | [_, _], _ => rfl
  | 8 =>
    cases h1
    cases h2
    exact fun _ _ _ _ _ _ us hl => match us, hl with | [_], _ => rfl
  | 9 =>
    cases h1
    cases h2
    exact fun _ _ _ _ _ _ us hl => match us, hl with | [_], _ => rfl
  | 10 =>
    cases h1
    cases h2
    exact fun _ _ _ _ _ _ us hl => match us, hl with | [_], _ => rfl
  | 11 =>
    cases h1
    cases h2
    exact fun _ _ _ _ _ _ us hl => match us, hl with | [_, _], _ => rfl
  | 12 =>
    cases h1
    cases h2
    exact fun _ _ _ _ _ _ us hl => match us, hl with | [_], _ => rfl
  | 13 =>
    cases h1
    cases h2
    exact fun _ _ _ _ _ _ us hl => match us, hl with | [_, _], _ => rfl
  | 14 =>
    cases h1
    cases h2
    exact fun _ _ _ _ _ _ us hl => match us, hl with | [_, _], _ => rfl
  | 15 =>
    cases h1
    cases h2
    exact fun _ _ _ _ _ _ us hl => match us, hl with | [_], _ => rfl
  | 16 =>
    cases h1
    cases h2
    exact fun _ _ _ _ _ _ us hl => match us, hl with | [_], _ => rfl
  | 17 =>
    cases h1
    cases h2
    exact fun _ _ _ _ _ _ us hl => match us, hl with | [_], _ => rfl
  | 18 =>
    cases h1
    cases h2
    exact fun _ _ _ _ _ _ us hl => match us, hl with | [_, _], _ => rfl
  | 19 =>
    cases h1
    cases h2
    exact fun _ _ _ _ _ _ us hl => match us, hl with | [_, _], _ => rfl
  | 20 =>
    cases h1
    cases h2
    exact fun _ _ _ _ _ _ us hl => match us, hl with | [_, _], _ => rfl
  | 21 =>
    cases h1
    cases h2
    exact fun _ _ _ _ _ _ us hl => match us, hl with | [_], _ => rfl
  | 22 =>
    cases h1
    cases h2
    exact fun _ _ _ _ _ _ us hl => match us, hl with | [_, _], _ => rfl
  | 23 =>
    cases h1
    cases h2
    exact fun _ _ _ _ _ _ us hl => match us, hl with | [_, _], _ => rfl
  | 24 =>
    cases h1
    cases h2
    exact fun _ _ _ _ _ _ us hl => match us, hl with | [_, _], _ => rfl
  | 25 =>
    cases h1
    cases h2
    exact fun _ _ _ _ _ _ us hl => match us, hl with | [_, _], _ => rfl
  | 26 =>
    cases h1
    cases h2
    exact fun _ _ _ _ _ _ us hl => match us, hl with | [_, _], _ => rfl
  | 27 =>
    cases h1
    cases h2
    exact fun _ _ _ _ _ _ us hl => match us, hl with | [_, _], _ => rfl
  | 28 =>
    cases h1
    cases h2
    exact fun _ _ _ _ _ _ us hl => match us, hl with | [_, _, _], _ => rfl
  | 29 =>
    cases h1
    cases h2
    exact fun _ _ _ _ _ _ us hl => match us, hl with | [_], _ => rfl
  | 30 =>
    cases h1
    cases h2
    exact fun _ _ _ _ _ _ us hl => match us, hl with | [_], _ => rfl
  | 31 =>
    cases h1
    cases h2
    exact fun _ _ _ _ _ _ us hl => match us, hl with | [_], _ => rfl
  | 32 =>
    cases h1
    cases h2
    exact fun _ _ _ _ _ _ us hl => match us, hl with | [_, _], _ => rfl
  | 33 =>
    cases h1
    cases h2
    exact fun _ _ _ _ _ _ us hl => match us, hl with | [_, _], _ => rfl
  | 34 =>
    cases h1
    cases h2
    exact fun _ _ _ _ _ _ us hl => match us, hl with | [_, _], _ => rfl
  | 35 =>
    cases h1
    cases h2
    exact fun _ _ _ _ _ _ us hl => match us, hl with | [_], _ => rfl
  | 36 =>
    cases h1
    cases h2
    exact fun _ _ _ _ _ _ us hl => match us, hl with | [], _ => rfl
  | 37 =>
    cases h1
    cases h2
    exact fun _ _ _ _ _ _ us hl => match us, hl with | [], _ => rfl
  | i + 38 => cases h1
theorem bindE : ∀ (i : Nat) (x : Str) (d : DefT), G.errs[i]? = some x → [d__law_error][i]? = some d → BindD x d := by
  intro i x d h1 h2
  match i with
  | 0 =>
    cases h1
    cases h2
    exact fun _ _ _ _ _ _ us hl => match us, hl with | [_], _ => rfl
  | i + 1 => cases h1
theorem bindC : BindD "_law_cup" d__law_cup := fun _ _ _ _ _ _ us hl => match us, hl with | [_], _ => rfl
theorem bindL : BindD "law" d_law := fun _ _ _ _ _ _ us hl => match us, hl with | [_], _ => rfl
end K28H
open PySem PySem.W PySem.Calls PyProof.Rows
theorem K28H.holds_of (lawRun : ∀ c : Int, 0 ≤ c → ∃ w', VI.execs (VI.run K28.PR (38 + 1)) (VI.etOf K28.PR) (K28.PR.fns.map VI.Fn.ar) K28.lawBody (VI.lawEnv K28.d_law.N.length) (VI.cup0 c) = .ok (.ret (.bl true)) w') : PySem.Challenge.rw_chanceskept_k28_whole_last_of_all.Holds := by
  w_on; o_law
  refine HandSHeadRun.head_imp (r := OpenLaw.row PySem.Challenge.rw_chanceskept_k28_whole_last_of_all) (q := K28H.qv) (H := K28H.hk) (ob := K28H.ob) (M := 6000) (loose := K28H.names) (d := HandSHeadRun.topDef (OpenLaw.row PySem.Challenge.rw_chanceskept_k28_whole_last_of_all).prog 60) (kwd := []) K28H.ob_eq
    K28H.run (by kernel_rfl) (by kernel_rfl) (by kernel_rfl) (by rfl) (by first | assumption | decide +kernel) (by decide +kernel) ⟨rfl, rfl, rfl, rfl, rfl, by decide +kernel⟩ ?hw ?hc
  case hw => w_witness2
  case hc =>
    refine LamX.walk_ofTsE (l := PySem.Challenge.rw_chanceskept_k28_whole_last_of_all) (n := 63) (k := 3 * (38 + 1) + 3) (x := "script") (CX := fun w => L2N.CX (PySem.Challenge.rw_chanceskept_k28_whole_last_of_all).prog w) rfl (by decide) (by kernel_rfl) ⟨rfl, by decide, by decide⟩ ?F ?X
    case F =>
      intro w mg fa h Y N hm
      obtain ⟨K, KX, c⟩ := Y
      have e : (HandSHeadRun.topDef (OpenLaw.row PySem.Challenge.rw_chanceskept_k28_whole_last_of_all).prog 60).name = ("law" : PySem.Str) := by kernel_rfl
      rw [e] at hm
      exact ⟨K, KX, VI.law_at c KX N K28H.okA K28H.bindF K28H.bindE K28H.bindC K28H.bindL K28H.okC K28H.okL rfl (fun h => by first | exact absurd h (by decide +kernel) | decide +kernel) hm lawRun⟩
    case X =>
      intro w H s e s' z
      obtain ⟨_, _, _, _, _, _, _, _, _, _, _, _, q⟩ := z
      exact q
end
section
set_option maxRecDepth 100000
namespace VI
open PySem
/-! ### loops by a fold; places in lists -/
def foldO {S X : Type} (g : X → S → Option S) : List X → S → Option S
  | [], s => some s
  | x :: xs, s => (g x s).bind (foldO g xs)
theorem foldO_app {S X : Type} {g : X → S → Option S} : ∀ (xs ys : List X) (s : S), foldO g (xs ++ ys) s = (foldO g xs s).bind (foldO g ys)
  | [], ys, s => rfl
  | x :: xs, ys, s => by
    show (g x s).bind (foldO g (xs ++ ys)) = ((g x s).bind (foldO g xs)).bind (foldO g ys)
    cases g x s with
    | none => rfl
    | some s1 => exact foldO_app xs ys s1
theorem for_fold {S X : Type} (dX : X → D) (P : S → Env → Prop) (g : X → S → Option S) {f : D → Env → M F} {w : List D} : ∀ (xs : List X) (s : S) (env : Env) (s' : S), P s env → foldO g xs s = some s' →
    (∀ x ∈ xs, ∀ s env s1, P s env → g x s = some s1 → ∃ env', f (dX x) env w = .ok (.nx env') w ∧ P s1 env') → ∃ env', forL f (xs.map dX) env w = .ok (.nx env') w ∧ P s' env'
  | [], s, env, s', h, e, _ => by cases e; exact ⟨env, rfl, h⟩
  | x :: xs, s, env, s', h, e, st => by
    have e : (g x s).bind (foldO g xs) = some s' := e
    cases e1 : g x s with
    | none => rw [e1] at e; cases e
    | some s1 =>
      rw [e1] at e
      obtain ⟨env1, h1, p1⟩ := st x List.mem_cons_self s env s1 h e1
      obtain ⟨env2, h2, p2⟩ := for_fold dX P g xs s1 env1 s' p1 e fun y hy => st y (List.mem_cons_of_mem _ hy)
      exact ⟨env2, bind_ok' h1 h2, p2⟩
/-- the same, a turn may return -/
def foldR {S X : Type} (g : X → S → Option (S ⊕ D)) : List X → S → Option (S ⊕ D)
  | [], s => some (.inl s)
  | x :: xs, s => match g x s with
    | some (.inl s1) => foldR g xs s1
    | r => r
def EndR {S : Type} (m : M F) (P : S → Env → Prop) (w : List D) : S ⊕ D → Prop
  | .inl s => ∃ env', m w = .ok (.nx env') w ∧ P s env'
  | .inr d => m w = .ok (.ret d) w
theorem for_foldR {S X : Type} (dX : X → D) (P : S → Env → Prop) (g : X → S → Option (S ⊕ D)) {f : D → Env → M F} {w : List D} : ∀ (xs : List X) (s : S) (env : Env) (r : S ⊕ D), P s env → foldR g xs s = some r →
    (∀ x ∈ xs, ∀ s env r, P s env → g x s = some r → EndR (f (dX x) env) P w r) → EndR (forL f (xs.map dX) env) P w r
  | [], s, env, r, h, e, _ => by cases e; exact ⟨env, rfl, h⟩
  | x :: xs, s, env, r, h, e, st => by
    have e : (match g x s with
      | some (.inl s1) => foldR g xs s1
      | r => r) = some r := e
    cases e1 : g x s with
    | none => rw [e1] at e; cases e
    | some q =>
      rw [e1] at e
      have st1 := st x List.mem_cons_self s env q h e1
      cases q with
      | inr d =>
        cases e
        exact bind_ok' st1 rfl
      | inl s1 =>
        obtain ⟨env1, h1, p1⟩ := st1
        have i := for_foldR dX P g xs s1 env1 r p1 e fun y hy => st y (List.mem_cons_of_mem _ hy)
        cases r with
        | inl s2 =>
          obtain ⟨env2, h2, p2⟩ := i
          exact ⟨env2, bind_ok' h1 h2, p2⟩
        | inr d => exact bind_ok' h1 i
section
variable {cl : Nat → List D → M D} {et : Nat → Str × (Nat → Option Str)} {ars : List Nat} {env env' : Env} {w w1 w2 w3 : List D} {e i c : E} {d x y v : D} {xs : List D} {ss sa sb : Ss} {a b : E} {k : Bool} {rf : R F} {n j : Nat}
theorem v_ite2 (h1 : Ev cl et ars c env w (.ok (.bl k) w1)) (h2 : Ev cl et ars a env w1 (.ok x w1)) (h3 : Ev cl et ars b env w1 (.ok y w1)) : Ev cl et ars (.ite c a b) env w (.ok (if k = true then x else y) w1) := by
  cases k with
  | true => exact v_ite h1 (.t ⟨rfl⟩ h2)
  | false => exact v_ite h1 (.f ⟨rfl⟩ h3)
theorem ixN_nat {m : Nat} (h : j < m) : ixN m (j : Int) = some j := by
  unfold ixN
  rw [if_pos (by omega), if_pos (by omega), Int.toNat_natCast]
theorem i_lst (h : xs[j]? = some d) {q : Int} (hq : q = (j : Int)) : Idx (.lst xs) (.int q) w (.ok d w) := ⟨by
  subst hq
  have hj : j < xs.length := by
    rcases Nat.lt_or_ge j xs.length with z | z
    · exact z
    · rw [List.getElem?_eq_none z] at h; cases h
  refine lift_ok (o := idxD (.lst xs) (.int (j : Int))) ?_
  show ((ixN xs.length (j : Int)).bind fun j => xs[j]?) = some d
  rw [ixN_nat hj]
  exact h⟩
theorem i_tup (h : xs[j]? = some d) {q : Int} (hq : q = (j : Int)) : Idx (.tup xs) (.int q) w (.ok d w) := ⟨(i_lst h hq).1⟩
theorem s_setI {q : Int} (h : Ev cl et ars e env w (.ok v w1)) (h0 : Get env n (.lst xs)) (h2 : Ev cl et ars i env w1 (.ok (.int q) w2)) (hq : q = (j : Int)) (hj : j < xs.length) (h3 : Xs cl et ars ss (env.set n (some (.lst (xs.set j v)))) w2 rf) : Xs cl et ars (.cons (.setI n i e) ss) env w rf :=
  ⟨xs_cons (bind_ok' h.1 (bind_ok' (ev_var (cl := cl) (et := et) (ars := ars) h0.1) (bind_ok' h2.1 (by
    subst hq
    have e : setD (.lst xs) (.int (j : Int)) v = some (.lst (xs.set j v)) := by
      show (ixN xs.length (j : Int)).map (fun j => D.lst (xs.set j v)) = _
      rw [ixN_nat hj]; rfl
    exact bind_ok' (lift_ok e) rfl)))) h3.1⟩
theorem s_forX {t : T} {it : E} {q : Ss} {P : Env → Prop} (h : Ev cl et ars it env w (.ok d w1)) (h2 : isSeq d = some xs) (h3 : ∃ env', forL (fun d env => M.bind (liftO (bindT t d env)) fun env' => execs cl et ars q env') xs env w1 = .ok (.nx env') w2 ∧ P env') (h4 : ∀ env', P env' → Xs cl et ars ss env' w2 rf) : Xs cl et ars (.cons (.for t it q) ss) env w rf := by
  obtain ⟨env', h5, h6⟩ := h3
  exact s_for h h2 h5 (h4 env' h6)
theorem s_forRet {t : T} {it : E} {q : Ss} (h : Ev cl et ars it env w (.ok d w1)) (h2 : isSeq d = some xs) (h3 : forL (fun d env => M.bind (liftO (bindT t d env)) fun env' => execs cl et ars q env') xs env w1 = .ok (.ret v) w2) : Xs cl et ars (.cons (.for t it q) ss) env w (.ok (.ret v) w2) := ⟨xs_ret (x_for h.1 h2 h3)⟩
end
/-- n, n - 1, .. 1 -/
def down (n : Nat) : List Nat := (List.range n).map fun i => n - i
abbrev dN (i : Nat) : D := .int (i : Int)
theorem small_nat {n : Nat} (h : n ≤ 2000000) : small (n : Int) = true := by
  unfold small
  rw [Bool.and_eq_true, decide_eq_true_eq, decide_eq_true_eq]
  constructor <;> omega
theorem range_down {n : Nat} (h : n ≤ 1000000) : Bin .range [dN n, .int 0, .int (-1)] (.lst ((down n).map dN)) := ⟨by
  have e : biD .range [dN n, .int 0, .int (-1)] = (rangeD (n : Int) 0 (-1)).map D.lst := rfl
  rw [e]
  unfold rangeD
  rw [small_nat (Nat.le_trans h (by decide))]
  have : small 0 = true := by decide
  rw [this]
  simp only [Bool.true_and, Bool.not_eq_true', decide_eq_false_iff_not, true_and]
  rw [if_neg (by decide), if_neg (by decide)]
  unfold down
  rw [Option.map_some, List.map_map]
  refine congrArg (fun l => some (D.lst l)) ?_
  rw [show ((n : Int) - 0).toNat = n by omega]
  refine List.map_congr_left fun i hi => ?_
  have hi := List.mem_range.mp hi
  exact congrArg D.int (show (n : Int) - (i : Int) = ((n - i : Nat) : Int) by omega)⟩
theorem range_up {n : Nat} (h : n ≤ 1000000) : Bin .range [dN n] (.lst ((List.range n).map dN)) := ⟨by
  have e : biD .range [dN n] = (rangeD 0 (n : Int) 1).map D.lst := rfl
  rw [e]
  unfold rangeD
  rw [small_nat (Nat.le_trans h (by decide))]
  have : small 0 = true := by decide
  rw [this]
  simp only [Bool.true_and, Bool.not_eq_true', decide_eq_false_iff_not, true_and]
  rw [if_neg (by decide), if_pos (by decide)]
  rw [Option.map_some]
  refine congrArg (fun l => some (D.lst l)) ?_
  rw [show ((n : Int) - 0).toNat = n by omega]
  refine List.map_congr_left fun i hi => ?_
  exact congrArg D.int (show (0 : Int) + (i : Int) = (i : Int) by omega)⟩
theorem range_one {n : Nat} (h : n ≤ 1000000) {q : Int} (hq : q = (n : Int) + 1) : Bin .range [.int 1, .int q] (.lst ((List.range n).map fun i => dN (i + 1))) := ⟨by
  subst hq
  have e : biD .range [.int 1, .int ((n : Int) + 1)] = (rangeD 1 ((n : Int) + 1) 1).map D.lst := rfl
  rw [e]
  unfold rangeD
  have h2 := small_nat (n := n + 1) (by omega)
  rw [show ((n + 1 : Nat) : Int) = (n : Int) + 1 by omega] at h2
  rw [h2]
  have : small 1 = true := by decide
  rw [this]
  simp only [Bool.true_and, Bool.not_eq_true', decide_eq_false_iff_not, true_and]
  rw [if_neg (by decide), if_pos (by decide)]
  rw [Option.map_some]
  refine congrArg (fun l => some (D.lst l)) ?_
  rw [show ((n : Int) + 1 - 1).toNat = n by omega]
  refine List.map_congr_left fun i hi => ?_
  exact congrArg D.int (show (1 : Int) + (i : Int) = ((i + 1 : Nat) : Int) by omega)⟩
end VI
end
section
set_option maxRecDepth 100000
set_option maxHeartbeats 1000000
namespace VI.Q
open PySem VI
/-! ### fractions as pairs of whole numbers: the program's and the laws' own -/
def f_whole : Fn := ⟨3, 3, (.cons (.ret (.and (.isi (.var 0) [.int]) (.and (.not (.isi (.var 0) [.bool])) (.chain .le .le (.var 1) (.var 0) (.var 2))))) .nil)⟩
def f_needW (iw : Nat) : Fn := ⟨3, 3, (.cons (.ite (.not (.call iw (.cons (.var 0) (.cons (.var 1) (.cons (.var 2) .nil))))) (.cons (.raise 1) .nil) .nil) .nil)⟩
def f_lowest : Fn := ⟨2, 3, (.cons (.asg (.nm 2) (.bi .gcd (.cons (.var 0) (.cons (.var 1) .nil)))) (.cons (.asg (.nm 2) (.ite (.cmp .gt (.var 1) (.con (.int 0))) (.var 2) (.neg (.var 2)))) (.cons (.ret (.tup (.cons (.bin .fdiv (.var 0) (.var 2)) (.cons (.bin .fdiv (.var 1) (.var 2)) .nil)))) .nil)))⟩
def f_plus (il : Nat) : Fn := ⟨2, 2, (.cons (.ret (.call il (.cons (.bin .add (.bin .mul (.idx (.var 0) (.con (.int 0))) (.idx (.var 1) (.con (.int 1)))) (.bin .mul (.idx (.var 1) (.con (.int 0))) (.idx (.var 0) (.con (.int 1))))) (.cons (.bin .mul (.idx (.var 0) (.con (.int 1))) (.idx (.var 1) (.con (.int 1)))) .nil)))) .nil)⟩
def f_times (il : Nat) : Fn := ⟨2, 2, (.cons (.ret (.call il (.cons (.bin .mul (.idx (.var 0) (.con (.int 0))) (.idx (.var 1) (.con (.int 0)))) (.cons (.bin .mul (.idx (.var 0) (.con (.int 1))) (.idx (.var 1) (.con (.int 1)))) .nil)))) .nil)⟩
def f_lead : Fn := ⟨2, 2, (.cons (.ret (.bin .sub (.bin .mul (.idx (.var 0) (.con (.int 0))) (.idx (.var 1) (.con (.int 1)))) (.bin .mul (.idx (.var 1) (.con (.int 0))) (.idx (.var 0) (.con (.int 1)))))) .nil)⟩
def f_gcdW : Fn := ⟨2, 2, (.cons (.par [0, 1] (.cons (.bi .abs (.cons (.var 0) .nil)) (.cons (.bi .abs (.cons (.var 1) .nil)) .nil))) (.cons (.while (.cmp .gt (.var 1) (.con (.int 0))) (.cons (.par [0, 1] (.cons (.var 1) (.cons (.bin .mod (.bi .int (.cons (.var 0) .nil)) (.var 1)) .nil))) .nil)) (.cons (.ret (.var 0)) .nil)))⟩
def f_lowW (ig : Nat) : Fn := ⟨2, 3, (.cons (.asg (.nm 2) (.ite (.cmp .gt (.var 1) (.con (.int 0))) (.call ig (.cons (.var 0) (.cons (.var 1) .nil))) (.neg (.call ig (.cons (.var 0) (.cons (.var 1) .nil)))))) (.cons (.ret (.tup (.cons (.bin .fdiv (.var 0) (.var 2)) (.cons (.bin .fdiv (.var 1) (.var 2)) .nil)))) .nil))⟩
abbrev Rt := Int × Int
abbrev dR (r : Rt) : D := .tup [.int r.1, .int r.2]
def sgn (t b : Int) : Int := if 0 < b then (Nat.gcd t.natAbs b.natAbs : Nat) else -(Nat.gcd t.natAbs b.natAbs : Nat)
def big (i : Int) : Bool := decide (i.natAbs < 2 ^ 8000)
def lowO (t b : Int) : Option Rt := if decide (b ≠ 0) && big t && big b then some (t.fdiv (sgn t b), b.fdiv (sgn t b)) else none
def plO (a b : Rt) : Option Rt := if big a.1 && big a.2 && big b.1 && big b.2 then lowO (a.1 * b.2 + b.1 * a.2) (a.2 * b.2) else none
def tmO (a b : Rt) : Option Rt := if big a.1 && big a.2 && big b.1 && big b.2 then lowO (a.1 * b.1) (a.2 * b.2) else none
def ldO (a b : Rt) : Option Int := if big a.1 && big a.2 && big b.1 && big b.2 then some (a.1 * b.2 - b.1 * a.2) else none
theorem big_lt {i : Int} (h : big i = true) : i.natAbs < 2 ^ 8000 := of_decide_eq_true h
theorem mul_big {i j : Int} (h1 : big i = true) (h2 : big j = true) : mulOk i j = true := mulOk_of 8000 8000 (big_lt h1) (big_lt h2) (by decide) (by decide) (by decide)
theorem lowO_inv {t b : Int} {r : Rt} (h : lowO t b = some r) : b ≠ 0 ∧ t.natAbs < 2 ^ 8000 ∧ b.natAbs < 2 ^ 8000 ∧ r = (t.fdiv (sgn t b), b.fdiv (sgn t b)) := by
  unfold lowO at h
  split at h
  · rename_i z
    simp only [Bool.and_eq_true, decide_eq_true_eq] at z
    cases h
    exact ⟨z.1.1, big_lt z.1.2, big_lt z.2, rfl⟩
  · cases h
theorem and4 {a b c d : Bool} (h : (a && b && c && d) = true) : a = true ∧ b = true ∧ c = true ∧ d = true := by
  simp only [Bool.and_eq_true] at h
  exact ⟨h.1.1.1, h.1.1.2, h.1.2, h.2⟩
theorem sgn_div {t b : Int} (hb : b ≠ 0) (hl : b.natAbs < 2 ^ 8000) : divOk (sgn t b) = true := by
  have g0 : 0 < Nat.gcd t.natAbs b.natAbs := Nat.gcd_pos_of_pos_right _ (by omega)
  have gl : Nat.gcd t.natAbs b.natAbs ≤ b.natAbs := Nat.gcd_le_right _ (by omega)
  have ea : (sgn t b).natAbs = Nat.gcd t.natAbs b.natAbs := by
    unfold sgn
    split <;> omega
  unfold divOk
  rw [ea]
  have : (Nat.gcd t.natAbs b.natAbs).log2 < 8000 := (Nat.log2_lt (by omega)).mpr (by omega)
  rw [decide_eq_true (show sgn t b ≠ 0 by intro z; rw [z] at ea; simp at ea; omega), decide_eq_true (show (Nat.gcd t.natAbs b.natAbs).log2 < 9000 by omega)]
  rfl
section
variable {P : Prog} {k i il ig iw : Nat} {w : List D}
theorem whole_cl (h : P.fns[i]? = some f_whole) {v lo hi : Int} (h1 : lo ≤ v) (h2 : v ≤ hi) : Cl (run P (k + 1)) i [.int v, .int lo, .int hi] w (.ok (.bl true) w) := by
  refine r_ret h rfl rfl ?_
  have a : Cop .le (.int lo) (.int v) true := ⟨congrArg some (decide_eq_true h1)⟩
  have b : Cop .le (.int v) (.int hi) true := ⟨congrArg some (decide_eq_true h2)⟩
  repeat' (first | exact a | exact b | exact v_con | exact v_nil | refine' v_var ?_ | exact Get.mk rfl | refine' v_cons ?_ ?_ | refine' v_tup ?_ | refine' v_lst ?_ | refine' v_neg ?_ ?_ | refine' v_not ?_ ?_ | refine' v_bin ?_ ?_ ?_ | refine' v_cmp ?_ ?_ ?_ | refine' v_and ?_ ?_ | refine' v_or ?_ ?_ | refine' v_ite ?_ ?_ | refine' v_chain ?_ ?_ ?_ ?_ | refine' v_bi ?_ ?_ | refine' v_idx ?_ ?_ ?_ | refine' v_isi ?_ ?_ | refine' v_slLo ?_ ?_ ?_ | refine' v_slHi ?_ ?_ ?_ | refine' v_slBo ?_ ?_ ?_ ?_ | refine' v_mjoin ?_ ?_ ?_ | refine' v_call ?_ ?_ | refine' v_callv ?_ ?_ ?_ ?_ | refine' v_err ?_ ?_ | exact Tru.mk rfl | refine' AndV.t (Tru.mk rfl) _ _ ?_ | exact AndV.f (Tru.mk rfl) | refine' OrV.f (Tru.mk rfl) _ _ ?_ | exact OrV.t (Tru.mk rfl) | refine' ChV.t (Tru.mk rfl) _ _ _ ?_ ?_ | exact ChV.f (Tru.mk rfl) | refine' IteV.t (Tru.mk rfl) ?_ | refine' IteV.f (Tru.mk rfl) ?_ | refine' IteS.t (Tru.mk rfl) ?_ | refine' IteS.f (Tru.mk rfl) ?_ | exact s_nil | exact s_raise | refine' s_ret ?_ | refine' s_asg ?_ rfl ?_ | refine' s_asg ?_ ?_ ?_ | (show VI.bindT _ _ _ = some _; rfl) | refine' s_par ?_ ?_ ?_ | refine' s_expr ?_ ?_ | refine' s_ite ?_ ?_ | refine' s_app ?_ ?_ ?_ ?_ | refine' q_nil ?_ | refine' q_ret ?_ | exact q_raise | refine' q_asg ?_ rfl ?_ | refine' q_asg ?_ ?_ ?_ | refine' q_par ?_ ?_ ?_ | refine' q_expr ?_ ?_ | refine' q_ite ?_ | exact o_add | exact o_sub | refine' o_mul ?_ | refine' o_fdiv ?_ | refine' o_mod ?_ | exact o_neg | exact o_abs | exact o_int | exact o_gcd | exact o_lenT | exact o_lenL | exact o_eqI | exact o_ltI | exact o_leI | exact o_gtI | exact o_geI | exact o_neI | (show VI.setParts _ _ _ = some _; rfl) | (show VI.isSeq _ = some _; rfl) | exact Bop.mk rfl | exact Cop.mk rfl | exact Bin.mk rfl | exact Ngd.mk rfl | exact Isd.mk rfl | exact Idx.mk rfl | exact Ctd.mk rfl | exact Jnd.mk rfl)
theorem lowest_cl (h : P.fns[i]? = some f_lowest) {t b : Int} {r : Rt} (hr : lowO t b = some r) : Cl (run P (k + 1)) i [.int t, .int b] w (.ok (dR r) w) := by
  obtain ⟨h1, h2, h3, rfl⟩ := lowO_inv hr
  refine r_ret h rfl rfl ?_
  have d := sgn_div (t := t) h1 h3
  by_cases z : 0 < b
  · have e : sgn t b = (Nat.gcd t.natAbs b.natAbs : Nat) := by unfold sgn; rw [if_pos z]
    rw [e] at d ⊢
    have c : Cop .gt (.int b) (.int 0) true := ⟨congrArg some (decide_eq_true z)⟩
    repeat' (first | exact c | exact d | exact v_con | exact v_nil | refine' v_var ?_ | exact Get.mk rfl | refine' v_cons ?_ ?_ | refine' v_tup ?_ | refine' v_lst ?_ | refine' v_neg ?_ ?_ | refine' v_not ?_ ?_ | refine' v_bin ?_ ?_ ?_ | refine' v_cmp ?_ ?_ ?_ | refine' v_and ?_ ?_ | refine' v_or ?_ ?_ | refine' v_ite ?_ ?_ | refine' v_chain ?_ ?_ ?_ ?_ | refine' v_bi ?_ ?_ | refine' v_idx ?_ ?_ ?_ | refine' v_isi ?_ ?_ | refine' v_slLo ?_ ?_ ?_ | refine' v_slHi ?_ ?_ ?_ | refine' v_slBo ?_ ?_ ?_ ?_ | refine' v_mjoin ?_ ?_ ?_ | refine' v_call ?_ ?_ | refine' v_callv ?_ ?_ ?_ ?_ | refine' v_err ?_ ?_ | exact Tru.mk rfl | refine' AndV.t (Tru.mk rfl) _ _ ?_ | exact AndV.f (Tru.mk rfl) | refine' OrV.f (Tru.mk rfl) _ _ ?_ | exact OrV.t (Tru.mk rfl) | refine' ChV.t (Tru.mk rfl) _ _ _ ?_ ?_ | exact ChV.f (Tru.mk rfl) | refine' IteV.t (Tru.mk rfl) ?_ | refine' IteV.f (Tru.mk rfl) ?_ | refine' IteS.t (Tru.mk rfl) ?_ | refine' IteS.f (Tru.mk rfl) ?_ | exact s_nil | exact s_raise | refine' s_ret ?_ | refine' s_asg ?_ rfl ?_ | refine' s_asg ?_ ?_ ?_ | (show VI.bindT _ _ _ = some _; rfl) | refine' s_par ?_ ?_ ?_ | refine' s_expr ?_ ?_ | refine' s_ite ?_ ?_ | refine' s_app ?_ ?_ ?_ ?_ | refine' q_nil ?_ | refine' q_ret ?_ | exact q_raise | refine' q_asg ?_ rfl ?_ | refine' q_asg ?_ ?_ ?_ | refine' q_par ?_ ?_ ?_ | refine' q_expr ?_ ?_ | refine' q_ite ?_ | exact o_add | exact o_sub | refine' o_mul ?_ | refine' o_fdiv ?_ | refine' o_mod ?_ | exact o_neg | exact o_abs | exact o_int | exact o_gcd | exact o_lenT | exact o_lenL | exact o_eqI | exact o_ltI | exact o_leI | exact o_gtI | exact o_geI | exact o_neI | (show VI.setParts _ _ _ = some _; rfl) | (show VI.isSeq _ = some _; rfl) | exact Bop.mk rfl | exact Cop.mk rfl | exact Bin.mk rfl | exact Ngd.mk rfl | exact Isd.mk rfl | exact Idx.mk rfl | exact Ctd.mk rfl | exact Jnd.mk rfl)
  · have e : sgn t b = -(Nat.gcd t.natAbs b.natAbs : Nat) := by unfold sgn; rw [if_neg z]
    rw [e] at d ⊢
    have c : Cop .gt (.int b) (.int 0) false := ⟨congrArg some (decide_eq_false z)⟩
    repeat' (first | exact c | exact d | exact v_con | exact v_nil | refine' v_var ?_ | exact Get.mk rfl | refine' v_cons ?_ ?_ | refine' v_tup ?_ | refine' v_lst ?_ | refine' v_neg ?_ ?_ | refine' v_not ?_ ?_ | refine' v_bin ?_ ?_ ?_ | refine' v_cmp ?_ ?_ ?_ | refine' v_and ?_ ?_ | refine' v_or ?_ ?_ | refine' v_ite ?_ ?_ | refine' v_chain ?_ ?_ ?_ ?_ | refine' v_bi ?_ ?_ | refine' v_idx ?_ ?_ ?_ | refine' v_isi ?_ ?_ | refine' v_slLo ?_ ?_ ?_ | refine' v_slHi ?_ ?_ ?_ | refine' v_slBo ?_ ?_ ?_ ?_ | refine' v_mjoin ?_ ?_ ?_ | refine' v_call ?_ ?_ | refine' v_callv ?_ ?_ ?_ ?_ | refine' v_err ?_ ?_ | exact Tru.mk rfl | refine' AndV.t (Tru.mk rfl) _ _ ?_ | exact AndV.f (Tru.mk rfl) | refine' OrV.f (Tru.mk rfl) _ _ ?_ | exact OrV.t (Tru.mk rfl) | refine' ChV.t (Tru.mk rfl) _ _ _ ?_ ?_ | exact ChV.f (Tru.mk rfl) | refine' IteV.t (Tru.mk rfl) ?_ | refine' IteV.f (Tru.mk rfl) ?_ | refine' IteS.t (Tru.mk rfl) ?_ | refine' IteS.f (Tru.mk rfl) ?_ | exact s_nil | exact s_raise | refine' s_ret ?_ | refine' s_asg ?_ rfl ?_ | refine' s_asg ?_ ?_ ?_ | (show VI.bindT _ _ _ = some _; rfl) | refine' s_par ?_ ?_ ?_ | refine' s_expr ?_ ?_ | refine' s_ite ?_ ?_ | refine' s_app ?_ ?_ ?_ ?_ | refine' q_nil ?_ | refine' q_ret ?_ | exact q_raise | refine' q_asg ?_ rfl ?_ | refine' q_asg ?_ ?_ ?_ | refine' q_par ?_ ?_ ?_ | refine' q_expr ?_ ?_ | refine' q_ite ?_ | exact o_add | exact o_sub | refine' o_mul ?_ | refine' o_fdiv ?_ | refine' o_mod ?_ | exact o_neg | exact o_abs | exact o_int | exact o_gcd | exact o_lenT | exact o_lenL | exact o_eqI | exact o_ltI | exact o_leI | exact o_gtI | exact o_geI | exact o_neI | (show VI.setParts _ _ _ = some _; rfl) | (show VI.isSeq _ = some _; rfl) | exact Bop.mk rfl | exact Cop.mk rfl | exact Bin.mk rfl | exact Ngd.mk rfl | exact Isd.mk rfl | exact Idx.mk rfl | exact Ctd.mk rfl | exact Jnd.mk rfl)
theorem plus_cl (h : P.fns[i]? = some (f_plus il)) (hl : ∀ {t b : Int} {r : Rt} {w : List D}, lowO t b = some r → Cl (run P k) il [.int t, .int b] w (.ok (dR r) w)) {a b r : Rt} (hr : plO a b = some r) : Cl (run P (k + 1)) i [dR a, dR b] w (.ok (dR r) w) := by
  unfold plO at hr
  split at hr
  · rename_i z
    obtain ⟨z1, z2, z3, z4⟩ := and4 z
    refine r_ret h rfl rfl ?_
    repeat' (first | exact mul_big z1 z4 | exact mul_big z3 z2 | exact mul_big z2 z4 | exact hl hr | exact v_con | exact v_nil | refine' v_var ?_ | exact Get.mk rfl | refine' v_cons ?_ ?_ | refine' v_tup ?_ | refine' v_lst ?_ | refine' v_neg ?_ ?_ | refine' v_not ?_ ?_ | refine' v_bin ?_ ?_ ?_ | refine' v_cmp ?_ ?_ ?_ | refine' v_and ?_ ?_ | refine' v_or ?_ ?_ | refine' v_ite ?_ ?_ | refine' v_chain ?_ ?_ ?_ ?_ | refine' v_bi ?_ ?_ | refine' v_idx ?_ ?_ ?_ | refine' v_isi ?_ ?_ | refine' v_slLo ?_ ?_ ?_ | refine' v_slHi ?_ ?_ ?_ | refine' v_slBo ?_ ?_ ?_ ?_ | refine' v_mjoin ?_ ?_ ?_ | refine' v_call ?_ ?_ | refine' v_callv ?_ ?_ ?_ ?_ | refine' v_err ?_ ?_ | exact Tru.mk rfl | refine' AndV.t (Tru.mk rfl) _ _ ?_ | exact AndV.f (Tru.mk rfl) | refine' OrV.f (Tru.mk rfl) _ _ ?_ | exact OrV.t (Tru.mk rfl) | refine' ChV.t (Tru.mk rfl) _ _ _ ?_ ?_ | exact ChV.f (Tru.mk rfl) | refine' IteV.t (Tru.mk rfl) ?_ | refine' IteV.f (Tru.mk rfl) ?_ | refine' IteS.t (Tru.mk rfl) ?_ | refine' IteS.f (Tru.mk rfl) ?_ | exact s_nil | exact s_raise | refine' s_ret ?_ | refine' s_asg ?_ rfl ?_ | refine' s_asg ?_ ?_ ?_ | (show VI.bindT _ _ _ = some _; rfl) | refine' s_par ?_ ?_ ?_ | refine' s_expr ?_ ?_ | refine' s_ite ?_ ?_ | refine' s_app ?_ ?_ ?_ ?_ | refine' q_nil ?_ | refine' q_ret ?_ | exact q_raise | refine' q_asg ?_ rfl ?_ | refine' q_asg ?_ ?_ ?_ | refine' q_par ?_ ?_ ?_ | refine' q_expr ?_ ?_ | refine' q_ite ?_ | exact o_add | exact o_sub | refine' o_mul ?_ | refine' o_fdiv ?_ | refine' o_mod ?_ | exact o_neg | exact o_abs | exact o_int | exact o_gcd | exact o_lenT | exact o_lenL | exact o_eqI | exact o_ltI | exact o_leI | exact o_gtI | exact o_geI | exact o_neI | (show VI.setParts _ _ _ = some _; rfl) | (show VI.isSeq _ = some _; rfl) | exact Bop.mk rfl | exact Cop.mk rfl | exact Bin.mk rfl | exact Ngd.mk rfl | exact Isd.mk rfl | exact Idx.mk rfl | exact Ctd.mk rfl | exact Jnd.mk rfl)
  · cases hr
theorem times_cl (h : P.fns[i]? = some (f_times il)) (hl : ∀ {t b : Int} {r : Rt} {w : List D}, lowO t b = some r → Cl (run P k) il [.int t, .int b] w (.ok (dR r) w)) {a b r : Rt} (hr : tmO a b = some r) : Cl (run P (k + 1)) i [dR a, dR b] w (.ok (dR r) w) := by
  unfold tmO at hr
  split at hr
  · rename_i z
    obtain ⟨z1, z2, z3, z4⟩ := and4 z
    refine r_ret h rfl rfl ?_
    repeat' (first | exact mul_big z1 z3 | exact mul_big z2 z4 | exact hl hr | exact v_con | exact v_nil | refine' v_var ?_ | exact Get.mk rfl | refine' v_cons ?_ ?_ | refine' v_tup ?_ | refine' v_lst ?_ | refine' v_neg ?_ ?_ | refine' v_not ?_ ?_ | refine' v_bin ?_ ?_ ?_ | refine' v_cmp ?_ ?_ ?_ | refine' v_and ?_ ?_ | refine' v_or ?_ ?_ | refine' v_ite ?_ ?_ | refine' v_chain ?_ ?_ ?_ ?_ | refine' v_bi ?_ ?_ | refine' v_idx ?_ ?_ ?_ | refine' v_isi ?_ ?_ | refine' v_slLo ?_ ?_ ?_ | refine' v_slHi ?_ ?_ ?_ | refine' v_slBo ?_ ?_ ?_ ?_ | refine' v_mjoin ?_ ?_ ?_ | refine' v_call ?_ ?_ | refine' v_callv ?_ ?_ ?_ ?_ | refine' v_err ?_ ?_ | exact Tru.mk rfl | refine' AndV.t (Tru.mk rfl) _ _ ?_ | exact AndV.f (Tru.mk rfl) | refine' OrV.f (Tru.mk rfl) _ _ ?_ | exact OrV.t (Tru.mk rfl) | refine' ChV.t (Tru.mk rfl) _ _ _ ?_ ?_ | exact ChV.f (Tru.mk rfl) | refine' IteV.t (Tru.mk rfl) ?_ | refine' IteV.f (Tru.mk rfl) ?_ | refine' IteS.t (Tru.mk rfl) ?_ | refine' IteS.f (Tru.mk rfl) ?_ | exact s_nil | exact s_raise | refine' s_ret ?_ | refine' s_asg ?_ rfl ?_ | refine' s_asg ?_ ?_ ?_ | (show VI.bindT _ _ _ = some _; rfl) | refine' s_par ?_ ?_ ?_ | refine' s_expr ?_ ?_ | refine' s_ite ?_ ?_ | refine' s_app ?_ ?_ ?_ ?_ | refine' q_nil ?_ | refine' q_ret ?_ | exact q_raise | refine' q_asg ?_ rfl ?_ | refine' q_asg ?_ ?_ ?_ | refine' q_par ?_ ?_ ?_ | refine' q_expr ?_ ?_ | refine' q_ite ?_ | exact o_add | exact o_sub | refine' o_mul ?_ | refine' o_fdiv ?_ | refine' o_mod ?_ | exact o_neg | exact o_abs | exact o_int | exact o_gcd | exact o_lenT | exact o_lenL | exact o_eqI | exact o_ltI | exact o_leI | exact o_gtI | exact o_geI | exact o_neI | (show VI.setParts _ _ _ = some _; rfl) | (show VI.isSeq _ = some _; rfl) | exact Bop.mk rfl | exact Cop.mk rfl | exact Bin.mk rfl | exact Ngd.mk rfl | exact Isd.mk rfl | exact Idx.mk rfl | exact Ctd.mk rfl | exact Jnd.mk rfl)
  · cases hr
theorem lead_cl (h : P.fns[i]? = some f_lead) {a b : Rt} {r : Int} (hr : ldO a b = some r) : Cl (run P (k + 1)) i [dR a, dR b] w (.ok (.int r) w) := by
  unfold ldO at hr
  split at hr
  · rename_i z
    obtain ⟨z1, z2, z3, z4⟩ := and4 z
    cases hr
    refine r_ret h rfl rfl ?_
    repeat' (first | exact mul_big z1 z4 | exact mul_big z3 z2 | exact v_con | exact v_nil | refine' v_var ?_ | exact Get.mk rfl | refine' v_cons ?_ ?_ | refine' v_tup ?_ | refine' v_lst ?_ | refine' v_neg ?_ ?_ | refine' v_not ?_ ?_ | refine' v_bin ?_ ?_ ?_ | refine' v_cmp ?_ ?_ ?_ | refine' v_and ?_ ?_ | refine' v_or ?_ ?_ | refine' v_ite ?_ ?_ | refine' v_chain ?_ ?_ ?_ ?_ | refine' v_bi ?_ ?_ | refine' v_idx ?_ ?_ ?_ | refine' v_isi ?_ ?_ | refine' v_slLo ?_ ?_ ?_ | refine' v_slHi ?_ ?_ ?_ | refine' v_slBo ?_ ?_ ?_ ?_ | refine' v_mjoin ?_ ?_ ?_ | refine' v_call ?_ ?_ | refine' v_callv ?_ ?_ ?_ ?_ | refine' v_err ?_ ?_ | exact Tru.mk rfl | refine' AndV.t (Tru.mk rfl) _ _ ?_ | exact AndV.f (Tru.mk rfl) | refine' OrV.f (Tru.mk rfl) _ _ ?_ | exact OrV.t (Tru.mk rfl) | refine' ChV.t (Tru.mk rfl) _ _ _ ?_ ?_ | exact ChV.f (Tru.mk rfl) | refine' IteV.t (Tru.mk rfl) ?_ | refine' IteV.f (Tru.mk rfl) ?_ | refine' IteS.t (Tru.mk rfl) ?_ | refine' IteS.f (Tru.mk rfl) ?_ | exact s_nil | exact s_raise | refine' s_ret ?_ | refine' s_asg ?_ rfl ?_ | refine' s_asg ?_ ?_ ?_ | (show VI.bindT _ _ _ = some _; rfl) | refine' s_par ?_ ?_ ?_ | refine' s_expr ?_ ?_ | refine' s_ite ?_ ?_ | refine' s_app ?_ ?_ ?_ ?_ | refine' q_nil ?_ | refine' q_ret ?_ | exact q_raise | refine' q_asg ?_ rfl ?_ | refine' q_asg ?_ ?_ ?_ | refine' q_par ?_ ?_ ?_ | refine' q_expr ?_ ?_ | refine' q_ite ?_ | exact o_add | exact o_sub | refine' o_mul ?_ | refine' o_fdiv ?_ | refine' o_mod ?_ | exact o_neg | exact o_abs | exact o_int | exact o_gcd | exact o_lenT | exact o_lenL | exact o_eqI | exact o_ltI | exact o_leI | exact o_gtI | exact o_geI | exact o_neI | (show VI.setParts _ _ _ = some _; rfl) | (show VI.isSeq _ = some _; rfl) | exact Bop.mk rfl | exact Cop.mk rfl | exact Bin.mk rfl | exact Ngd.mk rfl | exact Isd.mk rfl | exact Idx.mk rfl | exact Ctd.mk rfl | exact Jnd.mk rfl)
  · cases hr
/-! #### Euclid in a while -/
theorem mod_half' {b r : Nat} (hr : 0 < r) (h : r ≤ b) : 2 * (b % r) < b := by
  have h1 := Nat.mod_lt b hr
  have h2 := Nat.div_add_mod b r
  have h3 : 1 ≤ b / r := (Nat.one_le_div_iff hr).mpr h
  have h4 : r * 1 ≤ r * (b / r) := Nat.mul_le_mul_left r h3
  omega
theorem fmod_nat (a b : Nat) : (a : Int).fmod (b : Int) = ((a % b : Nat) : Int) := by
  rw [Int.fmod_eq_emod_of_nonneg _ (Int.natCast_nonneg b)]
  exact (Int.natCast_emod a b).symm
theorem while_gcd {c : Env → M Bool} {f : Env → M F} (hc : ∀ a b : Nat, c [some (.int a), some (.int b)] w = .ok (decide (0 < b)) w) (hf : ∀ a b : Nat, b ≠ 0 → f [some (.int a), some (.int b)] w = .ok (.nx [some (.int b), some (.int (a % b : Nat))]) w) : ∀ (m n a b : Nat), b < 2 ^ m → 2 * m < n →
    whileL c f n [some (.int a), some (.int b)] w = .ok (.nx [some (.int (Nat.gcd a b : Nat)), some (.int (0 : Nat))]) w
  | _, 0, _, _, _, h => by omega
  | m, n + 1, a, b, hb, hn => by
    by_cases z : b = 0
    · subst z
      refine bind_ok' (hc a 0) ?_
      rw [decide_eq_false (by omega), Nat.gcd_zero_right]
      rfl
    · refine bind_ok' (hc a b) ?_
      rw [decide_eq_true (by omega)]
      refine bind_ok' (hf a b z) ?_
      show whileL c f n [some (.int b), some (.int (a % b : Nat))] w = _
      have g1 : Nat.gcd a b = Nat.gcd b (a % b) := by rw [Nat.gcd_comm a b, Nat.gcd_rec b a, Nat.gcd_comm]
      rw [g1]
      match m, n, hb, hn with
      | 0, _, hb, _ => exact absurd (by simpa using hb) z
      | m + 1, 0, _, hn => omega
      | m + 1, n + 1, hb, hn =>
        by_cases z2 : a % b = 0
        · rw [z2]
          refine bind_ok' (hc b 0) ?_
          rw [decide_eq_false (by omega), Nat.gcd_zero_right]
          rfl
        · refine bind_ok' (hc b (a % b)) ?_
          rw [decide_eq_true (by omega)]
          refine bind_ok' (hf b (a % b) z2) ?_
          have lt := Nat.mod_lt a (Nat.pos_of_ne_zero z)
          have hh := mod_half' (b := b) (r := a % b) (Nat.pos_of_ne_zero z2) (Nat.le_of_lt lt)
          have g2 : Nat.gcd b (a % b) = Nat.gcd (a % b) (b % (a % b)) := by rw [Nat.gcd_comm b (a % b), Nat.gcd_rec (a % b) b, Nat.gcd_comm]
          rw [g2]
          exact while_gcd hc hf m n (a % b) (b % (a % b)) (by rw [Nat.pow_succ] at hb; omega) (by omega)
theorem gcdW_cl (h : P.fns[i]? = some f_gcdW) {t b : Int} (hb : b.natAbs < 2 ^ 8000) : Cl (run P (k + 1)) i [.int t, .int b] w (.ok (.int (Nat.gcd t.natAbs b.natAbs : Nat)) w) := by
  refine r_ret h rfl rfl ?_
  have wl := while_gcd (w := w) (c := fun env => M.bind (evalE (run P k) (etOf P) (P.fns.map Fn.ar) (.cmp .gt (.var 1) (.con (.int 0))) env) fun x => truth x) (f := fun env => execs (run P k) (etOf P) (P.fns.map Fn.ar) (.cons (.par [0, 1] (.cons (.var 1) (.cons (.bin .mod (.bi .int (.cons (.var 0) .nil)) (.var 1)) .nil))) .nil) env)
    (fun a b => by
      have c : cmpD .gt (.int (b : Int)) (.int 0) = some (decide (0 < b)) := congrArg some (decide_eq_decide.mpr (show ((0 : Int) < (b : Int)) ↔ 0 < b by omega))
      exact bind_ok' (a := .bl (decide (0 < b))) (w1 := w) (ev_cmp (ev_var rfl) ev_con c) rfl)
    (fun a b z => by
      have := bin_mod (i := (a : Int)) (j := (b : Int)) (by omega)
      rw [fmod_nat] at this
      exact xs_cons (x_par (ev_cons (ev_var rfl) (ev_cons (ev_bin (ev_bi (ev_cons (ev_var rfl) ev_nil) rfl) (ev_var rfl) this) ev_nil)) rfl) xs_nil) 8000 turns t.natAbs b.natAbs hb (by decide)
  refine s_par (ds := [.int t.natAbs, .int b.natAbs]) (env' := [some (.int t.natAbs), some (.int b.natAbs)]) (w1 := w) ?_ rfl ?_
  · repeat' (first | exact v_con | exact v_nil | refine' v_var ?_ | exact Get.mk rfl | refine' v_cons ?_ ?_ | refine' v_tup ?_ | refine' v_lst ?_ | refine' v_neg ?_ ?_ | refine' v_not ?_ ?_ | refine' v_bin ?_ ?_ ?_ | refine' v_cmp ?_ ?_ ?_ | refine' v_and ?_ ?_ | refine' v_or ?_ ?_ | refine' v_ite ?_ ?_ | refine' v_chain ?_ ?_ ?_ ?_ | refine' v_bi ?_ ?_ | refine' v_idx ?_ ?_ ?_ | refine' v_isi ?_ ?_ | refine' v_slLo ?_ ?_ ?_ | refine' v_slHi ?_ ?_ ?_ | refine' v_slBo ?_ ?_ ?_ ?_ | refine' v_mjoin ?_ ?_ ?_ | refine' v_call ?_ ?_ | refine' v_callv ?_ ?_ ?_ ?_ | refine' v_err ?_ ?_ | exact Tru.mk rfl | refine' AndV.t (Tru.mk rfl) _ _ ?_ | exact AndV.f (Tru.mk rfl) | refine' OrV.f (Tru.mk rfl) _ _ ?_ | exact OrV.t (Tru.mk rfl) | refine' ChV.t (Tru.mk rfl) _ _ _ ?_ ?_ | exact ChV.f (Tru.mk rfl) | refine' IteV.t (Tru.mk rfl) ?_ | refine' IteV.f (Tru.mk rfl) ?_ | refine' IteS.t (Tru.mk rfl) ?_ | refine' IteS.f (Tru.mk rfl) ?_ | exact s_nil | exact s_raise | refine' s_ret ?_ | refine' s_asg ?_ rfl ?_ | refine' s_asg ?_ ?_ ?_ | (show VI.bindT _ _ _ = some _; rfl) | refine' s_par ?_ ?_ ?_ | refine' s_expr ?_ ?_ | refine' s_ite ?_ ?_ | refine' s_app ?_ ?_ ?_ ?_ | refine' q_nil ?_ | refine' q_ret ?_ | exact q_raise | refine' q_asg ?_ rfl ?_ | refine' q_asg ?_ ?_ ?_ | refine' q_par ?_ ?_ ?_ | refine' q_expr ?_ ?_ | refine' q_ite ?_ | exact o_add | exact o_sub | refine' o_mul ?_ | refine' o_fdiv ?_ | refine' o_mod ?_ | exact o_neg | exact o_abs | exact o_int | exact o_gcd | exact o_lenT | exact o_lenL | exact o_eqI | exact o_ltI | exact o_leI | exact o_gtI | exact o_geI | exact o_neI | (show VI.setParts _ _ _ = some _; rfl) | (show VI.isSeq _ = some _; rfl) | exact Bop.mk rfl | exact Cop.mk rfl | exact Bin.mk rfl | exact Ngd.mk rfl | exact Isd.mk rfl | exact Idx.mk rfl | exact Ctd.mk rfl | exact Jnd.mk rfl)
  · exact ⟨xs_cons wl (xs_ret (x_ret (ev_var rfl)))⟩
theorem lowW_cl (h : P.fns[i]? = some (f_lowW ig)) (hg : P.fns[ig]? = some f_gcdW) {t b : Int} {r : Rt} (hr : lowO t b = some r) : Cl (run P (k + 2)) i [.int t, .int b] w (.ok (dR r) w) := by
  obtain ⟨h1, h2, h3, rfl⟩ := lowO_inv hr
  refine r_ret h rfl rfl ?_
  have d := sgn_div (t := t) h1 h3
  by_cases z : 0 < b
  · have e : sgn t b = (Nat.gcd t.natAbs b.natAbs : Nat) := by unfold sgn; rw [if_pos z]
    rw [e] at d ⊢
    have c : Cop .gt (.int b) (.int 0) true := ⟨congrArg some (decide_eq_true z)⟩
    repeat' (first | exact c | exact d | exact gcdW_cl hg h3 | exact v_con | exact v_nil | refine' v_var ?_ | exact Get.mk rfl | refine' v_cons ?_ ?_ | refine' v_tup ?_ | refine' v_lst ?_ | refine' v_neg ?_ ?_ | refine' v_not ?_ ?_ | refine' v_bin ?_ ?_ ?_ | refine' v_cmp ?_ ?_ ?_ | refine' v_and ?_ ?_ | refine' v_or ?_ ?_ | refine' v_ite ?_ ?_ | refine' v_chain ?_ ?_ ?_ ?_ | refine' v_bi ?_ ?_ | refine' v_idx ?_ ?_ ?_ | refine' v_isi ?_ ?_ | refine' v_slLo ?_ ?_ ?_ | refine' v_slHi ?_ ?_ ?_ | refine' v_slBo ?_ ?_ ?_ ?_ | refine' v_mjoin ?_ ?_ ?_ | refine' v_call ?_ ?_ | refine' v_callv ?_ ?_ ?_ ?_ | refine' v_err ?_ ?_ | exact Tru.mk rfl | refine' AndV.t (Tru.mk rfl) _ _ ?_ | exact AndV.f (Tru.mk rfl) | refine' OrV.f (Tru.mk rfl) _ _ ?_ | exact OrV.t (Tru.mk rfl) | refine' ChV.t (Tru.mk rfl) _ _ _ ?_ ?_ | exact ChV.f (Tru.mk rfl) | refine' IteV.t (Tru.mk rfl) ?_ | refine' IteV.f (Tru.mk rfl) ?_ | refine' IteS.t (Tru.mk rfl) ?_ | refine' IteS.f (Tru.mk rfl) ?_ | exact s_nil | exact s_raise | refine' s_ret ?_ | refine' s_asg ?_ rfl ?_ | refine' s_asg ?_ ?_ ?_ | (show VI.bindT _ _ _ = some _; rfl) | refine' s_par ?_ ?_ ?_ | refine' s_expr ?_ ?_ | refine' s_ite ?_ ?_ | refine' s_app ?_ ?_ ?_ ?_ | refine' q_nil ?_ | refine' q_ret ?_ | exact q_raise | refine' q_asg ?_ rfl ?_ | refine' q_asg ?_ ?_ ?_ | refine' q_par ?_ ?_ ?_ | refine' q_expr ?_ ?_ | refine' q_ite ?_ | exact o_add | exact o_sub | refine' o_mul ?_ | refine' o_fdiv ?_ | refine' o_mod ?_ | exact o_neg | exact o_abs | exact o_int | exact o_gcd | exact o_lenT | exact o_lenL | exact o_eqI | exact o_ltI | exact o_leI | exact o_gtI | exact o_geI | exact o_neI | (show VI.setParts _ _ _ = some _; rfl) | (show VI.isSeq _ = some _; rfl) | exact Bop.mk rfl | exact Cop.mk rfl | exact Bin.mk rfl | exact Ngd.mk rfl | exact Isd.mk rfl | exact Idx.mk rfl | exact Ctd.mk rfl | exact Jnd.mk rfl)
  · have e : sgn t b = -(Nat.gcd t.natAbs b.natAbs : Nat) := by unfold sgn; rw [if_neg z]
    rw [e] at d ⊢
    have c : Cop .gt (.int b) (.int 0) false := ⟨congrArg some (decide_eq_false z)⟩
    repeat' (first | exact c | exact d | exact gcdW_cl hg h3 | exact v_con | exact v_nil | refine' v_var ?_ | exact Get.mk rfl | refine' v_cons ?_ ?_ | refine' v_tup ?_ | refine' v_lst ?_ | refine' v_neg ?_ ?_ | refine' v_not ?_ ?_ | refine' v_bin ?_ ?_ ?_ | refine' v_cmp ?_ ?_ ?_ | refine' v_and ?_ ?_ | refine' v_or ?_ ?_ | refine' v_ite ?_ ?_ | refine' v_chain ?_ ?_ ?_ ?_ | refine' v_bi ?_ ?_ | refine' v_idx ?_ ?_ ?_ | refine' v_isi ?_ ?_ | refine' v_slLo ?_ ?_ ?_ | refine' v_slHi ?_ ?_ ?_ | refine' v_slBo ?_ ?_ ?_ ?_ | refine' v_mjoin ?_ ?_ ?_ | refine' v_call ?_ ?_ | refine' v_callv ?_ ?_ ?_ ?_ | refine' v_err ?_ ?_ | exact Tru.mk rfl | refine' AndV.t (Tru.mk rfl) _ _ ?_ | exact AndV.f (Tru.mk rfl) | refine' OrV.f (Tru.mk rfl) _ _ ?_ | exact OrV.t (Tru.mk rfl) | refine' ChV.t (Tru.mk rfl) _ _ _ ?_ ?_ | exact ChV.f (Tru.mk rfl) | refine' IteV.t (Tru.mk rfl) ?_ | refine' IteV.f (Tru.mk rfl) ?_ | refine' IteS.t (Tru.mk rfl) ?_ | refine' IteS.f (Tru.mk rfl) ?_ | exact s_nil | exact s_raise | refine' s_ret ?_ | refine' s_asg ?_ rfl ?_ | refine' s_asg ?_ ?_ ?_ | (show VI.bindT _ _ _ = some _; rfl) | refine' s_par ?_ ?_ ?_ | refine' s_expr ?_ ?_ | refine' s_ite ?_ ?_ | refine' s_app ?_ ?_ ?_ ?_ | refine' q_nil ?_ | refine' q_ret ?_ | exact q_raise | refine' q_asg ?_ rfl ?_ | refine' q_asg ?_ ?_ ?_ | refine' q_par ?_ ?_ ?_ | refine' q_expr ?_ ?_ | refine' q_ite ?_ | exact o_add | exact o_sub | refine' o_mul ?_ | refine' o_fdiv ?_ | refine' o_mod ?_ | exact o_neg | exact o_abs | exact o_int | exact o_gcd | exact o_lenT | exact o_lenL | exact o_eqI | exact o_ltI | exact o_leI | exact o_gtI | exact o_geI | exact o_neI | (show VI.setParts _ _ _ = some _; rfl) | (show VI.isSeq _ = some _; rfl) | exact Bop.mk rfl | exact Cop.mk rfl | exact Bin.mk rfl | exact Ngd.mk rfl | exact Isd.mk rfl | exact Idx.mk rfl | exact Ctd.mk rfl | exact Jnd.mk rfl)
end
end VI.Q
end
section
set_option maxRecDepth 100000
namespace VI
open PySem
/-! ### values that == takes -/
def okD : Nat → D → Bool
  | _, .non => true
  | _, .bl _ => true
  | _, .int _ => true
  | _, .str s => PyData.strOk s
  | n + 1, .tup xs => xs.all (okD n)
  | n + 1, .lst xs => xs.all (okD n)
  | _, _ => false
theorem okDs_py {n : Nat} (ih : ∀ d, okD n d = true → ∃ p, toPy d = some p ∧ p.canLay0 = true ∧ p.depth ≤ n) : ∀ {xs : List D}, xs.all (okD n) = true → ∃ ps, toPys xs = some ps ∧ PyData.canLayAll0 ps = true ∧ PyData.depthAll ps ≤ n ∧ ps.length = xs.length
  | [], _ => ⟨[], rfl, rfl, Nat.zero_le _, rfl⟩
  | x :: xs, h => by
    rw [List.all_cons, Bool.and_eq_true] at h
    obtain ⟨p, a1, a2, a3⟩ := ih x h.1
    obtain ⟨ps, b1, b2, b3, b4⟩ := okDs_py ih h.2
    refine ⟨p :: ps, ?_, ?_, ?_, by simp [b4]⟩
    · show (match toPy x, toPys xs with
        | some d, some ds => some (d :: ds)
        | _, _ => none) = _
      rw [a1, b1]
    · show (p.canLay0 && PyData.canLayAll0 ps) = true
      rw [a2, b2]; rfl
    · show max p.depth (PyData.depthAll ps) ≤ n
      omega
theorem okD_py : ∀ {n : Nat} {d : D}, okD n d = true → ∃ p, toPy d = some p ∧ p.canLay0 = true ∧ p.depth ≤ n
  | _, .non, _ => ⟨.none, rfl, rfl, Nat.zero_le _⟩
  | _, .bl b, _ => ⟨.bool b, rfl, rfl, Nat.zero_le _⟩
  | _, .int i, _ => ⟨.int i, rfl, rfl, Nat.zero_le _⟩
  | n, .str s, h => ⟨.str s, rfl, by
    cases n <;> exact h, Nat.zero_le _⟩
  | n + 1, .tup xs, h => by
    obtain ⟨ps, b1, b2, b3, b4⟩ := okDs_py (n := n) (fun d => okD_py) h
    refine ⟨.tuple ps, ?_, b2, ?_⟩
    · show (toPys xs).map PyData.tuple = _
      rw [b1]; rfl
    · show PyData.depthAll ps + 1 ≤ n + 1
      omega
  | n + 1, .lst xs, h => by
    obtain ⟨ps, b1, b2, b3, b4⟩ := okDs_py (n := n) (fun d => okD_py) h
    refine ⟨.list ps, ?_, b2, ?_⟩
    · show (toPys xs).map PyData.list = _
      rw [b1]; rfl
    · show PyData.depthAll ps + 1 ≤ n + 1
      omega
  | 0, .tup xs, h => by cases h
  | 0, .lst xs, h => by cases h
  | 0, .fn _, h => by cases h
  | 0, .cup, h => by cases h
  | 0, .exn _, h => by cases h
  | _ + 1, .fn _, h => by cases h
  | _ + 1, .cup, h => by cases h
  | _ + 1, .exn _, h => by cases h
theorem okD_shaped {n : Nat} {p : PyData} (h1 : p.canLay0 = true) (h2 : p.depth ≤ n) (hn : n ≤ 64) : SeqAt.shaped p = true := by
  show (p.canLay0 && decide (p.depth ≤ 64)) = true
  rw [h1, decide_eq_true (by omega)]; rfl
/-- == [] -/
theorem eq_empty {n : Nat} {xs : List D} (hn : n ≤ 60) (h : xs.all (okD n) = true) : eqD (.lst xs) (.lst []) = some xs.isEmpty := by
  obtain ⟨ps, b1, b2, b3, b4⟩ := okDs_py (n := n) (fun d => okD_py) h
  have e1 : toPy (.lst xs) = some (.list ps) := by
    show (toPys xs).map PyData.list = _
    rw [b1]; rfl
  have e2 : toPy (.lst []) = some (.list []) := rfl
  unfold eqD
  rw [e1, e2]
  have s1 : SeqAt.shaped (.list ps) = true := okD_shaped (n := n + 1) b2 (by show PyData.depthAll ps + 1 ≤ n + 1; omega) (by omega)
  have s2 : SeqAt.shaped (.list []) = true := rfl
  dsimp only
  rw [s1, s2]
  cases xs with
  | nil =>
    cases ps with
    | nil => rfl
    | cons _ _ => cases b4
  | cons x xs =>
    cases ps with
    | nil => cases b4
    | cons _ _ => rfl
end VI
end
section
set_option maxRecDepth 100000
set_option maxHeartbeats 1000000
namespace VI.Q
/-! ### what pairs in lowest terms stand for -/
def val (r : Rt) : Rat := (r.1 : Rat) / (r.2 : Rat)
def Nrm (r : Rt) : Prop := 0 < r.2 ∧ Nat.gcd r.1.natAbs r.2.natAbs = 1
theorem cast_ne {b : Int} (h : b ≠ 0) : (b : Rat) ≠ 0 := fun z => h (Rat.intCast_inj.mp (by rw [z]; rfl))
theorem cast_pos {b : Int} (h : 0 < b) : (0 : Rat) < (b : Rat) := by
  have := Rat.intCast_lt_intCast.mpr h
  simpa using this
theorem low_parts {t b : Int} {r : Rt} (h : lowO t b = some r) (hb : 0 < b) : ∃ g : Int, 0 < g ∧ t = g * r.1 ∧ b = g * r.2 ∧ Nrm r := by
  obtain ⟨h1, h2, h3, rfl⟩ := lowO_inv h
  have g0 : 0 < Nat.gcd t.natAbs b.natAbs := Nat.gcd_pos_of_pos_right _ (by omega)
  have es : sgn t b = (Nat.gcd t.natAbs b.natAbs : Int) := by unfold sgn; rw [if_pos hb]
  obtain ⟨x, hx⟩ := Int.ofNat_dvd_left.mpr (Nat.gcd_dvd_left t.natAbs b.natAbs)
  obtain ⟨y, hy⟩ := Int.ofNat_dvd_left.mpr (Nat.gcd_dvd_right t.natAbs b.natAbs)
  rw [es]
  generalize hg : Nat.gcd t.natAbs b.natAbs = g at *
  have gp : (g : Int) ≠ 0 := by omega
  have ex : t.fdiv (g : Int) = x := by rw [hx]; exact Int.mul_fdiv_cancel_left x gp
  have ey : b.fdiv (g : Int) = y := by rw [hy]; exact Int.mul_fdiv_cancel_left y gp
  rw [ex, ey]
  have ax : t.natAbs = g * x.natAbs := by rw [hx, Int.natAbs_mul, Int.natAbs_natCast]
  have ay : b.natAbs = g * y.natAbs := by rw [hy, Int.natAbs_mul, Int.natAbs_natCast]
  have hy0 : 0 < y := by
    rcases Int.lt_or_le 0 y with z | z
    · exact z
    · have : (g : Int) * y ≤ 0 := Int.mul_nonpos_of_nonneg_of_nonpos (by omega) z
      omega
  refine ⟨g, by omega, hx, hy, hy0, ?_⟩
  rw [ax, ay, Nat.gcd_mul_left] at hg
  show Nat.gcd x.natAbs y.natAbs = 1
  exact Nat.eq_of_mul_eq_mul_left g0 (by rw [hg, Nat.mul_one])
theorem low_val {t b : Int} {r : Rt} (h : lowO t b = some r) (hb : 0 < b) : Nrm r ∧ val r = (t : Rat) / (b : Rat) := by
  obtain ⟨g, g0, e1, e2, n⟩ := low_parts h hb
  refine ⟨n, ?_⟩
  have a := cast_ne (show g ≠ 0 by omega)
  have c := cast_ne (show r.2 ≠ 0 by have := n.1; omega)
  rw [e1, e2, Rat.intCast_mul, Rat.intCast_mul]
  unfold val
  grind
theorem low_size {t b : Int} {r : Rt} (h : lowO t b = some r) (hb : 0 < b) : r.1.natAbs ≤ t.natAbs ∧ r.2.natAbs ≤ b.natAbs := by
  obtain ⟨g, g0, e1, e2, n⟩ := low_parts h hb
  have a1 : t.natAbs = g.natAbs * r.1.natAbs := by rw [e1, Int.natAbs_mul]
  have a2 : b.natAbs = g.natAbs * r.2.natAbs := by rw [e2, Int.natAbs_mul]
  have hg : 0 < g.natAbs := by omega
  rw [a1, a2]
  exact ⟨Nat.le_mul_of_pos_left _ hg, Nat.le_mul_of_pos_left _ hg⟩
theorem nrm_eq {a b : Rt} (ha : Nrm a) (hb : Nrm b) (h : val a = val b) : a = b := by
  have a0 := cast_ne (show a.2 ≠ 0 by have := ha.1; omega)
  have b0 := cast_ne (show b.2 ≠ 0 by have := hb.1; omega)
  unfold val at h
  have e : (a.1 : Rat) * (b.2 : Rat) = (b.1 : Rat) * (a.2 : Rat) := by grind
  rw [← Rat.intCast_mul, ← Rat.intCast_mul] at e
  have e := Rat.intCast_inj.mp e
  have en : a.1.natAbs * b.2.natAbs = b.1.natAbs * a.2.natAbs := by rw [← Int.natAbs_mul, ← Int.natAbs_mul, e]
  have d1 : a.2.natAbs ∣ b.2.natAbs := by
    have : a.2.natAbs ∣ a.1.natAbs * b.2.natAbs := ⟨b.1.natAbs, by rw [en, Nat.mul_comm]⟩
    exact Nat.Coprime.dvd_of_dvd_mul_left (show Nat.Coprime a.2.natAbs a.1.natAbs from by rw [Nat.coprime_comm]; exact ha.2) this
  have d2 : b.2.natAbs ∣ a.2.natAbs := by
    have : b.2.natAbs ∣ b.1.natAbs * a.2.natAbs := ⟨a.1.natAbs, by rw [← en, Nat.mul_comm]⟩
    exact Nat.Coprime.dvd_of_dvd_mul_left (show Nat.Coprime b.2.natAbs b.1.natAbs from by rw [Nat.coprime_comm]; exact hb.2) this
  have e2 : a.2 = b.2 := by
    have := Nat.dvd_antisymm d1 d2
    have := ha.1
    have := hb.1
    omega
  have e1 : a.1 = b.1 := by
    rw [e2] at e
    exact Int.eq_of_mul_eq_mul_right (by have := hb.1; omega) e
  exact Prod.ext e1 e2
theorem pl_val {a b r : Rt} (h : plO a b = some r) (ha : 0 < a.2) (hb : 0 < b.2) : Nrm r ∧ val r = val a + val b := by
  unfold plO at h
  split at h
  · obtain ⟨n, e⟩ := low_val h (Int.mul_pos ha hb)
    refine ⟨n, ?_⟩
    have a0 := cast_ne (show a.2 ≠ 0 by omega)
    have b0 := cast_ne (show b.2 ≠ 0 by omega)
    rw [e, Rat.intCast_add, Rat.intCast_mul, Rat.intCast_mul, Rat.intCast_mul]
    unfold val
    grind
  · cases h
theorem tm_val {a b r : Rt} (h : tmO a b = some r) (ha : 0 < a.2) (hb : 0 < b.2) : Nrm r ∧ val r = val a * val b := by
  unfold tmO at h
  split at h
  · obtain ⟨n, e⟩ := low_val h (Int.mul_pos ha hb)
    refine ⟨n, ?_⟩
    have a0 := cast_ne (show a.2 ≠ 0 by omega)
    have b0 := cast_ne (show b.2 ≠ 0 by omega)
    rw [e, Rat.intCast_mul, Rat.intCast_mul]
    unfold val
    grind
  · cases h
theorem ld_val {a b : Rt} {l : Int} (h : ldO a b = some l) (ha : 0 < a.2) (hb : 0 < b.2) : 0 ≤ l ↔ val b ≤ val a := by
  unfold ldO at h
  split at h
  · cases h
    have a0 := cast_pos ha
    have b0 := cast_pos hb
    have a1 : (a.2 : Rat) ≠ 0 := by grind
    have b1 : (b.2 : Rat) ≠ 0 := by grind
    have p : (0 : Rat) < (a.2 : Rat) * (b.2 : Rat) := Rat.mul_pos a0 b0
    have e : (val a) * ((a.2 : Rat) * (b.2 : Rat)) = (a.1 : Rat) * (b.2 : Rat) := by unfold val; grind
    have e2 : (val b) * ((a.2 : Rat) * (b.2 : Rat)) = (b.1 : Rat) * (a.2 : Rat) := by unfold val; grind
    have c1 : 0 ≤ a.1 * b.2 - b.1 * a.2 ↔ b.1 * a.2 ≤ a.1 * b.2 := by omega
    rw [c1, ← Rat.intCast_le_intCast, Rat.intCast_mul, Rat.intCast_mul, ← e, ← e2]
    constructor
    · intro h; exact Rat.le_of_mul_le_mul_right h p
    · intro h; exact Rat.mul_le_mul_of_nonneg_right h (by grind)
  · cases h
/-! #### sizes: when nothing fails -/
/-- both within n bits -/
def Siz (n : Nat) (r : Rt) : Prop := r.1.natAbs < 2 ^ n ∧ r.2.natAbs < 2 ^ n
theorem Siz.mono {n m : Nat} {r : Rt} (h : Siz n r) (k : n ≤ m) : Siz m r := ⟨Nat.lt_of_lt_of_le h.1 (Nat.pow_le_pow_right (by decide) k), Nat.lt_of_lt_of_le h.2 (Nat.pow_le_pow_right (by decide) k)⟩
theorem Siz.big {n : Nat} {r : Rt} (h : Siz n r) (k : n ≤ 8000) : big r.1 = true ∧ big r.2 = true := ⟨decide_eq_true (h.mono k).1, decide_eq_true (h.mono k).2⟩
theorem mul_lt {a b : Int} {n m : Nat} (h1 : a.natAbs < 2 ^ n) (h2 : b.natAbs < 2 ^ m) : (a * b).natAbs < 2 ^ (n + m) := by
  rw [Int.natAbs_mul, Nat.pow_add]
  exact Nat.mul_lt_mul'' h1 h2
theorem low_some {t b : Int} {n : Nat} (h1 : t.natAbs < 2 ^ n) (h2 : b.natAbs < 2 ^ n) (hb : 0 < b) (k : n ≤ 8000) : ∃ r, lowO t b = some r ∧ Siz n r := by
  have e : lowO t b = some (t.fdiv (sgn t b), b.fdiv (sgn t b)) := by
    unfold lowO
    have s : Siz n (t, b) := ⟨h1, h2⟩
    rw [(s.big k).1, (s.big k).2, decide_eq_true (show b ≠ 0 by omega)]
    rfl
  refine ⟨_, e, ?_⟩
  obtain ⟨a, c⟩ := low_size e hb
  exact ⟨Nat.lt_of_le_of_lt a h1, Nat.lt_of_le_of_lt c h2⟩
theorem pl_some {a b : Rt} {n m : Nat} (h1 : Siz n a) (h2 : Siz m b) (ha : 0 < a.2) (hb : 0 < b.2) (k : n + m + 1 ≤ 8000) : ∃ r, plO a b = some r ∧ Siz (n + m + 1) r := by
  have x := mul_lt h1.1 h2.2
  have y := mul_lt h2.1 h1.2
  have z := mul_lt h1.2 h2.2
  rw [show m + n = n + m by omega] at y
  unfold plO
  rw [(h1.big (by omega)).1, (h1.big (by omega)).2, (h2.big (by omega)).1, (h2.big (by omega)).2]
  have e := Nat.pow_succ (n := 2) (m := n + m)
  exact low_some (by omega) (by omega) (Int.mul_pos ha hb) k
theorem tm_some {a b : Rt} {n m : Nat} (h1 : Siz n a) (h2 : Siz m b) (ha : 0 < a.2) (hb : 0 < b.2) (k : n + m ≤ 8000) : ∃ r, tmO a b = some r ∧ Siz (n + m) r := by
  have x := mul_lt h1.1 h2.1
  have z := mul_lt h1.2 h2.2
  unfold tmO
  rw [(h1.big (by omega)).1, (h1.big (by omega)).2, (h2.big (by omega)).1, (h2.big (by omega)).2]
  exact low_some x z (Int.mul_pos ha hb) k
end VI.Q
end
section
set_option maxRecDepth 100000
namespace VI
open PySem
theorem v_rev {cl et ars a env w xs w1} (h1 : Ev cl et ars a env w (.ok (.tup xs) w1)) : Ev cl et ars (.rev a) env w (.ok (.tup xs.reverse) w1) := ⟨bind_ok' h1.1 rfl⟩
theorem okD_up : ∀ {n : Nat} {d : D}, okD n d = true → okD (n + 1) d = true
  | 0, d, h => by cases d <;> first | rfl | exact h | cases h
  | n + 1, d, h => by
    cases d with
    | tup xs => exact List.all_eq_true.mpr fun x hx => okD_up (List.all_eq_true.mp h x hx)
    | lst xs => exact List.all_eq_true.mpr fun x hx => okD_up (List.all_eq_true.mp h x hx)
    | non => rfl
    | bl b => rfl
    | int i => rfl
    | str s => exact h
    | fn i => cases h
    | cup => cases h
    | exn i => cases h
theorem cut_ctd {xs : List D} {lo hi : Option Int} : Ctd (.tup xs) lo hi (.tup (cut xs lo hi)) := ⟨rfl⟩
theorem cut_mem {xs : List D} {lo hi : Option Int} : ∀ x ∈ cut xs lo hi, x ∈ xs := fun x hx => List.mem_of_mem_drop (List.mem_of_mem_take hx)
theorem cut_len {xs : List D} {lo hi : Option Int} : (cut xs lo hi).length ≤ xs.length := by
  unfold cut
  rw [List.length_take, List.length_drop]
  omega
theorem cat_tup {xs ys : List D} (h : xs.length + ys.length ≤ 5000) : Bop .add (.tup xs) (.tup ys) (.tup (xs ++ ys)) := ⟨by
  show (if xs.length + ys.length ≤ line then some (D.tup (xs ++ ys)) else none) = _
  rw [if_pos (by unfold line; omega)]⟩
theorem all_sub {p : D → Bool} {xs ys : List D} (h : ∀ x ∈ ys, x ∈ xs) (hx : xs.all p = true) : ys.all p = true := List.all_eq_true.mpr fun y hy => List.all_eq_true.mp hx y (h y hy)
/-- a row beside the empty one -/
theorem eq_emptyT {n : Nat} {xs : List D} (hn : n ≤ 60) (h : xs.all (okD n) = true) : eqD (.tup xs) (.tup []) = some xs.isEmpty := by
  obtain ⟨ps, b1, b2, b3, b4⟩ := okDs_py (n := n) (fun d => okD_py) h
  have e1 : toPy (.tup xs) = some (.tuple ps) := by
    show (toPys xs).map PyData.tuple = _
    rw [b1]; rfl
  have e2 : toPy (.tup []) = some (.tuple []) := rfl
  unfold eqD
  rw [e1, e2]
  have s1 : SeqAt.shaped (.tuple ps) = true := okD_shaped (n := n + 1) b2 (by show PyData.depthAll ps + 1 ≤ n + 1; omega) (by omega)
  have s2 : SeqAt.shaped (.tuple []) = true := rfl
  dsimp only
  rw [s1, s2]
  cases xs with
  | nil =>
    cases ps with
    | nil => rfl
    | cons _ _ => cases b4
  | cons x xs =>
    cases ps with
    | nil => cases b4
    | cons p ps => rfl
theorem ne_emptyT {n : Nat} {x : D} {xs : List D} (hn : n ≤ 60) (h : (x :: xs).all (okD n) = true) : Cop .ne (.tup (x :: xs)) (.tup []) true := ⟨by
  show (eqD (.tup (x :: xs)) (.tup [])).map (!·) = some true
  rw [eq_emptyT hn h]
  rfl⟩
theorem mul_tup {xs : List D} {k : Nat} (h1 : k ≤ 1000) (h2 : xs.length ≤ 1000) : Bop .mul (.tup xs) (.int k) (.tup (reps k xs)) := ⟨by
  show (if decide (-(2 ^ 62) ≤ (k : Int)) && decide ((k : Int) ≤ 1000) && decide (xs.length ≤ 1000) then some (D.tup (reps (k : Int).toNat xs)) else none) = _
  rw [decide_eq_true (by omega), decide_eq_true (by omega), decide_eq_true h2, Int.toNat_natCast]
  rfl⟩
theorem reps_one {α : Type} {x : α} : ∀ k, reps k [x] = List.replicate k x
  | 0 => rfl
  | k + 1 => by
    show ([x] :: List.replicate k [x]).flatten = _
    rw [List.flatten_cons]
    exact congrArg (x :: ·) (reps_one k)
end VI
end
section
set_option maxRecDepth 100000
namespace VI
open PySem
theorem v_sset {cl et ars a env w x d w1} (h1 : Ev cl et ars a env w (.ok x w1)) (h2 : ssetD x = some d) : Ev cl et ars (.sset a) env w (.ok d w1) := ⟨bind_ok' h1.1 (lift_ok h2)⟩
theorem v_rg {cl et ars t a b env w x y d w1 w2} (h1 : Ev cl et ars a env w (.ok x w1)) (h2 : Ev cl et ars b env w1 (.ok y w2)) (h3 : rgD t x y = some d) : Ev cl et ars (.rg t a b) env w (.ok d w2) := ⟨bind_ok' h1.1 (bind_ok' h2.1 (lift_ok h3))⟩
theorem v_index {cl et ars a b env w xs y d w1 w2} (h1 : Ev cl et ars a env w (.ok (.lst xs) w1)) (h2 : Ev cl et ars b env w1 (.ok y w2)) (h3 : indexD xs y = some d) : Ev cl et ars (.mindex a b) env w (.ok d w2) := ⟨bind_ok' h1.1 (bind_ok' h2.1 (lift_ok h3))⟩
theorem v_chain3T {cl et ars a b c d env w x y z u w1 w2 w3 w4} {o1 o2 o3 : COp} {k : Bool} (h1 : Ev cl et ars a env w (.ok x w1)) (h2 : Ev cl et ars b env w1 (.ok y w2)) (c1 : Cop o1 x y true) (h3 : Ev cl et ars c env w2 (.ok z w3)) (c2 : Cop o2 y z true) (h4 : Ev cl et ars d env w3 (.ok u w4)) (c3 : Cop o3 z u k) : Ev cl et ars (.chain3 o1 o2 o3 a b c d) env w (.ok (.bl k) w4) := ⟨bind_ok' h1.1 (bind_ok' h2.1 (bind_ok' (lift_ok c1.1) (bind_ok' h3.1 (bind_ok' (lift_ok c2.1) (bind_ok' h4.1 (bind_ok' (lift_ok c3.1) rfl))))))⟩
theorem v_chain3F {cl et ars a b c d env w x y w1 w2} {o1 o2 o3 : COp} (h1 : Ev cl et ars a env w (.ok x w1)) (h2 : Ev cl et ars b env w1 (.ok y w2)) (c1 : Cop o1 x y false) : Ev cl et ars (.chain3 o1 o2 o3 a b c d) env w (.ok (.bl false) w2) := ⟨bind_ok' h1.1 (bind_ok' h2.1 (bind_ok' (lift_ok c1.1) rfl))⟩
theorem v_chain3G {cl et ars a b c d env w x y z w1 w2 w3} {o1 o2 o3 : COp} (h1 : Ev cl et ars a env w (.ok x w1)) (h2 : Ev cl et ars b env w1 (.ok y w2)) (c1 : Cop o1 x y true) (h3 : Ev cl et ars c env w2 (.ok z w3)) (c2 : Cop o2 y z false) : Ev cl et ars (.chain3 o1 o2 o3 a b c d) env w (.ok (.bl false) w3) := ⟨bind_ok' h1.1 (bind_ok' h2.1 (bind_ok' (lift_ok c1.1) (bind_ok' h3.1 (bind_ok' (lift_ok c2.1) rfl))))⟩
theorem toPys_ints : ∀ l : List Int, toPys (l.map D.int) = some (l.map PyData.int)
  | [] => rfl
  | i :: l => by
    show (match toPy (.int i), toPys (l.map D.int) with | some d, some ds => some (d :: ds) | _, _ => none) = _
    rw [toPys_ints l]
    rfl
theorem lay_ints : ∀ l : List Int, PyData.canLayAll0 (l.map PyData.int) = true ∧ PyData.depthAll (l.map PyData.int) = 0
  | [] => ⟨rfl, rfl⟩
  | i :: l => by
    obtain ⟨a, b⟩ := lay_ints l
    constructor
    · show ((PyData.int i).canLay0 && PyData.canLayAll0 (l.map PyData.int)) = true
      rw [a]; rfl
    · show max (PyData.int i).depth (PyData.depthAll (l.map PyData.int)) = 0
      rw [b]; rfl
theorem shaped_ints (l : List Int) : SeqAt.shaped (.list (l.map PyData.int)) = true := by
  obtain ⟨a, b⟩ := lay_ints l
  show ((PyData.list (l.map PyData.int)).canLay0 && decide ((PyData.list (l.map PyData.int)).depth ≤ 64)) = true
  have e1 : (PyData.list (l.map PyData.int)).canLay0 = true := by simp only [PyData.canLay0]; exact a
  have e2 : (PyData.list (l.map PyData.int)).depth ≤ 64 := by simp only [PyData.depth]; omega
  rw [e1, decide_eq_true e2]
  rfl
theorem eqv_ints : ∀ a b : List Int, PyData.eqvAll (a.map PyData.int) (b.map PyData.int) = decide (a = b)
  | [], [] => rfl
  | [], b :: m => by simp [PyData.eqvAll]
  | a :: l, [] => by simp [PyData.eqvAll]
  | a :: l, b :: m => by
    have e : PyData.eqvAll ((a :: l).map PyData.int) ((b :: m).map PyData.int) = ((a == b) && PyData.eqvAll (l.map PyData.int) (m.map PyData.int)) := by simp only [List.map_cons, PyData.eqvAll, PyData.eqv]
    rw [e, eqv_ints l m]
    by_cases h1 : a = b
    · subst h1
      by_cases h2 : l = m
      · subst h2; simp
      · rw [decide_eq_false h2, decide_eq_false (fun z => h2 (List.cons.inj z).2)]; simp
    · rw [decide_eq_false (fun z => h1 (List.cons.inj z).1), beq_eq_false_iff_ne.mpr h1]; rfl
theorem eqD_ints (a b : List Int) : eqD (.lst (a.map D.int)) (.lst (b.map D.int)) = some (decide (a = b)) := by
  have ea : toPy (.lst (a.map D.int)) = some (.list (a.map PyData.int)) := by show (toPys (a.map D.int)).map PyData.list = _; rw [toPys_ints]; rfl
  have eb : toPy (.lst (b.map D.int)) = some (.list (b.map PyData.int)) := by show (toPys (b.map D.int)).map PyData.list = _; rw [toPys_ints]; rfl
  unfold eqD
  rw [ea, eb]
  dsimp only
  rw [shaped_ints, shaped_ints]
  show some (PyData.eqv (.list (a.map PyData.int)) (.list (b.map PyData.int))) = _
  rw [show PyData.eqv (.list (a.map PyData.int)) (.list (b.map PyData.int)) = PyData.eqvAll (a.map PyData.int) (b.map PyData.int) from by simp only [PyData.eqv], eqv_ints]
theorem intsD_ints : ∀ l : List Int, intsD (l.map D.int) = some l
  | [] => rfl
  | i :: l => by
    show (intsD (l.map D.int)).map (i :: ·) = _
    rw [intsD_ints l]; rfl
theorem sset_ints {l : List Int} (h : l.length ≤ 63) : ssetD (.tup (l.map D.int)) = some (.lst ((ssetI l).map D.int)) := by
  show ((intsD (l.map D.int)).bind fun is => if is.length ≤ 63 then some (D.lst ((ssetI is).map .int)) else none) = _
  rw [intsD_ints]
  show (if l.length ≤ 63 then _ else none) = _
  rw [if_pos h]
theorem insU_le : ∀ (a : Int) (l : List Int), (∀ y ∈ l, a < y) → insU a l = a :: l
  | a, [], _ => rfl
  | a, b :: l, h => by
    unfold insU
    rw [if_pos (h b List.mem_cons_self)]
theorem ssetI_up' : ∀ {l : List Int}, l.Pairwise (· < ·) → ssetI l = l
  | [], _ => rfl
  | a :: l, h => by
    obtain ⟨h1, h2⟩ := List.pairwise_cons.mp h
    show insU a (ssetI l) = _
    rw [ssetI_up' h2, insU_le a l h1]
theorem insU_upP (a : Int) : ∀ l : List Int, l.Pairwise (· < ·) → (insU a l).Pairwise (· < ·) ∧ ∀ k ∈ insU a l, k = a ∨ k ∈ l
  | [], _ => ⟨by simp [insU], fun k hk => .inl (List.mem_singleton.mp hk)⟩
  | b :: l, h => by
    unfold insU
    obtain ⟨h1, h2⟩ := List.pairwise_cons.mp h
    split
    · rename_i hab
      refine ⟨List.pairwise_cons.mpr ⟨fun y hy => ?_, h⟩, fun k hk => List.mem_cons.mp hk⟩
      rcases List.mem_cons.mp hy with e | e
      · subst e; exact hab
      · have := h1 y e; omega
    · split
      · exact ⟨h, fun k hk => .inr hk⟩
      · rename_i h3 h4
        obtain ⟨i1, i2⟩ := insU_upP a l h2
        refine ⟨List.pairwise_cons.mpr ⟨fun y hy => ?_, i1⟩, fun k hk => ?_⟩
        · rcases i2 y hy with e | e
          · subst e; omega
          · exact h1 y e
        · rcases List.mem_cons.mp hk with e | e
          · exact .inr (by rw [e]; exact List.mem_cons_self)
          · rcases i2 k e with e | e
            · exact .inl e
            · exact .inr (List.mem_cons_of_mem _ e)
theorem ssetI_upP : ∀ l : List Int, (ssetI l).Pairwise (· < ·)
  | [] => List.Pairwise.nil
  | a :: l => (insU_upP a _ (ssetI_upP l)).1
theorem sset_fix (l : List Int) : decide (l = ssetI l) = decide (l.Pairwise (· < ·)) := decide_eq_decide.mpr ⟨fun h => by rw [h]; exact ssetI_upP l, fun h => (ssetI_up' h).symm⟩
end VI
end
section
set_option maxRecDepth 100000
set_option maxHeartbeats 4000000
namespace VI.Q
open PySem VI
/-! ### fractions by their worth -/
abbrev fr (x : Rat) : Rt := (x.num, (x.den : Int))
abbrev dQ (x : Rat) : D := dR (fr x)
def Sz (n : Nat) (x : Rat) : Prop := x.num.natAbs < 2 ^ n ∧ x.den < 2 ^ n
theorem fr_nrm (x : Rat) : Nrm (fr x) := ⟨by have := x.den_pos; show 0 < (x.den : Int); omega, by show Nat.gcd x.num.natAbs ((x.den : Int)).natAbs = 1; rw [Int.natAbs_natCast]; exact x.reduced⟩
theorem fr_val (x : Rat) : val (fr x) = x := by
  show ((x.num : Int) : Rat) / (((x.den : Nat) : Int) : Rat) = x
  rw [← Rat.divInt_eq_div]
  exact Rat.num_divInt_den x
theorem fr_eq {r : Rt} (h : Nrm r) : r = fr (val r) := nrm_eq h (fr_nrm _) (fr_val _).symm
theorem fr_siz {n : Nat} {x : Rat} (h : Sz n x) : Siz n (fr x) := ⟨h.1, by show ((x.den : Int)).natAbs < _; rw [Int.natAbs_natCast]; exact h.2⟩
theorem siz_fr {n : Nat} {x : Rat} (h : Siz n (fr x)) : Sz n x := ⟨h.1, by have := h.2; rw [show (fr x).2.natAbs = x.den from Int.natAbs_natCast _] at this; exact this⟩
theorem Sz.mono {n m : Nat} {x : Rat} (h : Sz n x) (k : n ≤ m) : Sz m x := siz_fr ((fr_siz h).mono k)
theorem lowQ {t b : Int} {n : Nat} (h1 : t.natAbs < 2 ^ n) (h2 : b.natAbs < 2 ^ n) (hb : 0 < b) (k : n ≤ 8000) : lowO t b = some (fr ((t : Rat) / (b : Rat))) ∧ Sz n ((t : Rat) / (b : Rat)) := by
  obtain ⟨r, e, s⟩ := low_some h1 h2 hb k
  obtain ⟨a, v⟩ := low_val e hb
  have := fr_eq a
  rw [v] at this
  rw [e, this]
  exact ⟨rfl, siz_fr (by rw [← this]; exact s)⟩
theorem plQ {x y : Rat} {n m : Nat} (h1 : Sz n x) (h2 : Sz m y) (k : n + m + 1 ≤ 8000) : plO (fr x) (fr y) = some (fr (x + y)) ∧ Sz (n + m + 1) (x + y) := by
  obtain ⟨r, e, s⟩ := pl_some (fr_siz h1) (fr_siz h2) (fr_nrm x).1 (fr_nrm y).1 k
  obtain ⟨a, v⟩ := pl_val e (fr_nrm x).1 (fr_nrm y).1
  rw [fr_val, fr_val] at v
  have := fr_eq a
  rw [v] at this
  rw [e, this]
  exact ⟨rfl, siz_fr (by rw [← this]; exact s)⟩
theorem tmQ {x y : Rat} {n m : Nat} (h1 : Sz n x) (h2 : Sz m y) (k : n + m ≤ 8000) : tmO (fr x) (fr y) = some (fr (x * y)) ∧ Sz (n + m) (x * y) := by
  obtain ⟨r, e, s⟩ := tm_some (fr_siz h1) (fr_siz h2) (fr_nrm x).1 (fr_nrm y).1 k
  obtain ⟨a, v⟩ := tm_val e (fr_nrm x).1 (fr_nrm y).1
  rw [fr_val, fr_val] at v
  have := fr_eq a
  rw [v] at this
  rw [e, this]
  exact ⟨rfl, siz_fr (by rw [← this]; exact s)⟩
/-- the lead: its sign -/
theorem ldQ {x y : Rat} {n m : Nat} (h1 : Sz n x) (h2 : Sz m y) (k1 : n ≤ 8000) (k2 : m ≤ 8000) : ∃ l, ldO (fr x) (fr y) = some l ∧ (0 ≤ l ↔ y ≤ x) ∧ (0 < l ↔ y < x) := by
  obtain ⟨a1, a2⟩ := (fr_siz h1).big k1
  obtain ⟨b1, b2⟩ := (fr_siz h2).big k2
  have e1 : ldO (fr x) (fr y) = some ((fr x).1 * (fr y).2 - (fr y).1 * (fr x).2) := by unfold ldO; rw [a1, a2, b1, b2]; rfl
  have e2 : ldO (fr y) (fr x) = some ((fr y).1 * (fr x).2 - (fr x).1 * (fr y).2) := by unfold ldO; rw [a1, a2, b1, b2]; rfl
  have v1 := ld_val e1 (fr_nrm x).1 (fr_nrm y).1
  have v2 := ld_val e2 (fr_nrm y).1 (fr_nrm x).1
  rw [fr_val, fr_val] at v1 v2
  refine ⟨_, e1, v1, ?_⟩
  constructor
  · intro h
    have : ¬ x ≤ y := fun z => by have := v2.mpr z; omega
    exact Rat.not_le.mp this
  · intro h
    have : ¬ 0 ≤ (fr y).1 * (fr x).2 - (fr x).1 * (fr y).2 := fun z => absurd (v2.mp z) (Rat.not_le.mpr h)
    omega
theorem fr_inj {x y : Rat} (h : fr x = fr y) : x = y := by rw [← fr_val x, ← fr_val y, h]
theorem eq_QQ (x y : Rat) : Cop .eq (dQ x) (dQ y) (decide (x = y)) := ⟨by
  show some (decide (x.num = y.num) && (decide ((x.den : Int) = (y.den : Int)) && true)) = _
  congr 1
  rw [Bool.and_true]
  by_cases h : x = y
  · subst h; simp
  · rw [decide_eq_false h]
    by_cases h1 : x.num = y.num
    · by_cases h2 : (x.den : Int) = (y.den : Int)
      · exact absurd (fr_inj (Prod.ext h1 h2)) h
      · rw [decide_eq_false h2, Bool.and_false]
    · rw [decide_eq_false h1]; rfl⟩
theorem fr0 : fr 0 = (0, 1) := rfl
theorem fr1 : fr 1 = (1, 1) := rfl
theorem sz0 : Sz 1 0 := ⟨by decide, by decide⟩
theorem sz1 : Sz 1 1 := ⟨by decide, by decide⟩
end VI.Q
end
section
set_option maxRecDepth 100000
set_option maxHeartbeats 4000000
namespace K28
open PySem VI VI.Q
abbrev ar : List Nat := PR.fns.map Fn.ar
def forB (s : VI.S) : Ss := match s with
  | .for _ _ b => b
  | .while _ b => b
  | _ => .nil
def nthS : Nat → Ss → VI.S
  | 0, .cons s _ => s
  | n + 1, .cons _ ss => nthS n ss
  | _, .nil => .pass
section
variable {k : Nat} {w : List D} {x y : Rat} {n m : Nat}
theorem lo {t b : Int} (h1 : t.natAbs < 2 ^ n) (h2 : b.natAbs < 2 ^ n) (hb : 0 < b) (hk : n ≤ 8000) : Cl (VI.run PR (k + 3)) 4 [.int t, .int b] w (.ok (dQ ((t : Rat) / (b : Rat))) w) := lowest_cl (k := k + 2) rfl (lowQ h1 h2 hb hk).1
theorem pl (h1 : Sz n x) (h2 : Sz m y) (hk : n + m + 1 ≤ 8000) : Cl (VI.run PR (k + 3)) 5 [dQ x, dQ y] w (.ok (dQ (x + y)) w) := plus_cl (k := k + 2) (il := 4) rfl (fun h => lowest_cl (k := k + 1) rfl h) (plQ h1 h2 hk).1
theorem tm (h1 : Sz n x) (h2 : Sz m y) (hk : n + m ≤ 8000) : Cl (VI.run PR (k + 3)) 6 [dQ x, dQ y] w (.ok (dQ (x * y)) w) := times_cl (k := k + 2) (il := 4) rfl (fun h => lowest_cl (k := k + 1) rfl h) (tmQ h1 h2 hk).1
theorem le {l : Int} (h : ldO (fr x) (fr y) = some l) : Cl (VI.run PR (k + 3)) 7 [dQ x, dQ y] w (.ok (.int l) w) := lead_cl (k := k + 2) rfl h
theorem llo {t b : Int} (h1 : t.natAbs < 2 ^ n) (h2 : b.natAbs < 2 ^ n) (hb : 0 < b) (hk : n ≤ 8000) : Cl (VI.run PR (k + 3)) 24 [.int t, .int b] w (.ok (dQ ((t : Rat) / (b : Rat))) w) := lowW_cl (k := k + 1) (ig := 23) rfl rfl (lowQ h1 h2 hb hk).1
theorem lpl (h1 : Sz n x) (h2 : Sz m y) (hk : n + m + 1 ≤ 8000) : Cl (VI.run PR (k + 3)) 25 [dQ x, dQ y] w (.ok (dQ (x + y)) w) := plus_cl (k := k + 2) (il := 24) rfl (fun h => lowW_cl (k := k) (ig := 23) rfl rfl h) (plQ h1 h2 hk).1
theorem ltm (h1 : Sz n x) (h2 : Sz m y) (hk : n + m ≤ 8000) : Cl (VI.run PR (k + 3)) 26 [dQ x, dQ y] w (.ok (dQ (x * y)) w) := times_cl (k := k + 2) (il := 24) rfl (fun h => lowW_cl (k := k) (ig := 23) rfl rfl h) (tmQ h1 h2 hk).1
theorem lle {l : Int} (h : ldO (fr x) (fr y) = some l) : Cl (VI.run PR (k + 3)) 27 [dQ x, dQ y] w (.ok (.int l) w) := lead_cl (k := k + 2) rfl h
end
/-! ### chances -/
def Chn (x : Rat) : Prop := 0 ≤ x ∧ x ≤ 1 ∧ x.den ≤ 30
theorem num_eq (x : Rat) : (x.num : Rat) = x * (x.den : Rat) := by
  have h := fr_val x
  have h : ((x.num : Int) : Rat) / (((x.den : Nat) : Int) : Rat) = x := h
  rw [Rat.intCast_natCast] at h
  have d : (x.den : Rat) ≠ 0 := by
    have := x.den_pos
    have : (0 : Rat) < (x.den : Rat) := Rat.natCast_pos.mpr this
    grind
  grind
theorem Chn.num {x : Rat} (h : Chn x) : 0 ≤ x.num ∧ x.num ≤ x.den := by
  refine ⟨Rat.num_nonneg.mpr h.1, ?_⟩
  have e := num_eq x
  have d : (0 : Rat) ≤ (x.den : Rat) := Rat.natCast_nonneg
  have := Rat.mul_le_mul_of_nonneg_right h.2.1 d
  rw [← e, Rat.one_mul] at this
  have : ((x.num : Int) : Rat) ≤ (((x.den : Nat) : Int) : Rat) := by rw [Rat.intCast_natCast]; exact this
  exact Rat.intCast_le_intCast.mp this
theorem Chn.sz {x : Rat} (h : Chn x) : Sz 5 x := by
  obtain ⟨a, b⟩ := h.num
  have c := h.2.2
  exact ⟨by omega, by omega⟩
theorem other_eq (x : Rat) : (((x.den : Int) - x.num : Int) : Rat) / ((x.den : Int) : Rat) = 1 - x := by
  have e := num_eq x
  have d : (x.den : Rat) ≠ 0 := by
    have : (0 : Rat) < (x.den : Rat) := Rat.natCast_pos.mpr x.den_pos
    grind
  rw [Rat.intCast_sub, Rat.intCast_natCast, e]
  grind
theorem Chn.one_sub {x : Rat} (h : Chn x) : Sz 5 (1 - x) ∧ ∀ {k w}, Cl (VI.run PR (k + 3)) 4 [.int ((x.den : Int) - x.num), .int (x.den : Int)] w (.ok (dQ (1 - x)) w) := by
  obtain ⟨a, b⟩ := h.num
  have c := h.2.2
  have p := x.den_pos
  have q := lowQ (t := (x.den : Int) - x.num) (b := (x.den : Int)) (n := 5) (by omega) (by omega) (by omega) (by omega)
  refine ⟨by rw [← other_eq x]; exact q.2, fun {k w} => ?_⟩
  have := lo (k := k) (w := w) (t := (x.den : Int) - x.num) (b := (x.den : Int)) (n := 5) (by omega) (by omega) (by omega) (by omega)
  rw [other_eq] at this
  exact this
theorem other_cl {k : Nat} {w : List D} {x : Rat} (h : Chn x) : Cl (VI.run PR (k + 4)) 29 [dQ x] w (.ok (dQ (1 - x)) w) := by
  obtain ⟨a, b⟩ := h.num
  have c := h.2.2
  have p := x.den_pos
  have q := fun w => llo (k := k) (w := w) (t := (x.den : Int) - x.num) (b := (x.den : Int)) (n := 5) (by omega) (by omega) (by omega) (by omega)
  rw [other_eq] at q
  have i0 : ∀ w, Idx (dQ x) (.int 0) w (.ok (.int x.num) w) := fun w => ⟨rfl⟩
  have i1 : ∀ w, Idx (dQ x) (.int 1) w (.ok (.int (x.den : Int)) w) := fun w => ⟨rfl⟩
  refine r_ret rfl rfl rfl ?_
  repeat' (first | exact i0 _ | exact i1 _ | exact q _ | exact v_con | exact v_nil | refine' v_var ?_ | exact Get.mk rfl | refine' v_cons ?_ ?_ | refine' v_tup ?_ | refine' v_lst ?_ | refine' v_neg ?_ ?_ | refine' v_not ?_ ?_ | refine' v_bin ?_ ?_ ?_ | refine' v_cmp ?_ ?_ ?_ | refine' v_and ?_ ?_ | refine' v_or ?_ ?_ | refine' v_ite ?_ ?_ | refine' v_chain ?_ ?_ ?_ ?_ | refine' v_bi ?_ ?_ | refine' v_idx ?_ ?_ ?_ | refine' v_isi ?_ ?_ | refine' v_slLo ?_ ?_ ?_ | refine' v_slHi ?_ ?_ ?_ | refine' v_slBo ?_ ?_ ?_ ?_ | refine' v_mjoin ?_ ?_ ?_ | refine' v_call ?_ ?_ | refine' v_callv ?_ ?_ ?_ ?_ | refine' v_err ?_ ?_ | exact Tru.mk rfl | refine' AndV.t (Tru.mk rfl) _ _ ?_ | exact AndV.f (Tru.mk rfl) | refine' OrV.f (Tru.mk rfl) _ _ ?_ | exact OrV.t (Tru.mk rfl) | refine' ChV.t (Tru.mk rfl) _ _ _ ?_ ?_ | exact ChV.f (Tru.mk rfl) | refine' IteV.t (Tru.mk rfl) ?_ | refine' IteV.f (Tru.mk rfl) ?_ | refine' IteS.t (Tru.mk rfl) ?_ | refine' IteS.f (Tru.mk rfl) ?_ | exact s_nil | exact s_raise | refine' s_ret ?_ | refine' s_asg ?_ rfl ?_ | refine' s_asg ?_ ?_ ?_ | (show VI.bindT _ _ _ = some _; rfl) | refine' s_par ?_ ?_ ?_ | refine' s_expr ?_ ?_ | refine' s_ite ?_ ?_ | refine' s_app ?_ ?_ ?_ ?_ | refine' q_nil ?_ | refine' q_ret ?_ | exact q_raise | refine' q_asg ?_ rfl ?_ | refine' q_asg ?_ ?_ ?_ | refine' q_par ?_ ?_ ?_ | refine' q_expr ?_ ?_ | refine' q_ite ?_ | exact o_add | exact o_sub | refine' o_mul ?_ | refine' o_fdiv ?_ | refine' o_mod ?_ | exact o_neg | exact o_abs | exact o_int | exact o_gcd | exact o_lenT | exact o_lenL | exact o_eqI | exact o_ltI | exact o_leI | exact o_gtI | exact o_geI | exact o_neI | (show VI.setParts _ _ _ = some _; rfl) | (show VI.isSeq _ = some _; rfl) | exact Bop.mk rfl | exact Cop.mk rfl | exact Bin.mk rfl | exact Ngd.mk rfl | exact Isd.mk rfl | exact Idx.mk rfl | exact Ctd.mk rfl | exact Jnd.mk rfl)
/-! ### the chance of a start, from the last part back -/
def noneQ : List Rat → Rat
  | [] => 1
  | p :: l => noneQ l * (1 - p)
def ownQ : List Rat → Rat
  | [] => 0
  | p :: l => p * noneQ l + (1 - p) * ownQ l
def stQ : List Rat → List Rat
  | [] => []
  | p :: l => ownQ (p :: l) :: stQ l
def ob : Nat → Nat
  | 0 => 1
  | m + 1 => ob m + 5 * m + 12
theorem ob40 : ∀ m, m < 41 → ob m ≤ 4381 := by decide +kernel
theorem ob14 : ∀ m, m < 15 → ob m ≤ 624 := by decide +kernel
def Chs (l : List Rat) : Prop := ∀ p ∈ l, Chn p
theorem Chs.tail {p : Rat} {l : List Rat} (h : Chs (p :: l)) : Chs l := fun q hq => h q (List.mem_cons_of_mem _ hq)
theorem Chs.head {p : Rat} {l : List Rat} (h : Chs (p :: l)) : Chn p := h p List.mem_cons_self
theorem none_sz : ∀ {l : List Rat}, Chs l → l.length ≤ 1000 → Sz (1 + 5 * l.length) (noneQ l)
  | [], _, _ => sz1
  | p :: l, h, hl => by
    rw [List.length_cons] at hl ⊢
    exact (tmQ (none_sz h.tail (by omega)) h.head.one_sub.1 (by omega)).2.mono (by omega)
theorem own_sz : ∀ {l : List Rat}, Chs l → l.length ≤ 40 → Sz (ob l.length) (ownQ l)
  | [], _, _ => sz0
  | p :: l, h, hl => by
    rw [List.length_cons] at hl ⊢
    have b := ob40 l.length (by omega)
    have n := none_sz h.tail (by omega)
    have t1 := (tmQ h.head.sz n (by omega)).2
    have t2 := (tmQ h.head.one_sub.1 (own_sz h.tail (by omega)) (by omega)).2
    refine (plQ t1 t2 (by omega)).2.mono ?_
    show _ ≤ ob l.length + 5 * l.length + 12
    omega
def gS (p : Rat) (l : List Rat) : Option (List Rat) := if l.length < 40 then some (p :: l) else none
theorem gS_all : ∀ (xs l : List Rat), xs.length + l.length ≤ 40 → foldO gS xs l = some (xs.reverse ++ l)
  | [], l, _ => rfl
  | x :: xs, l, h => by
    rw [List.length_cons] at h
    show (gS x l).bind (foldO gS xs) = _
    unfold gS
    rw [if_pos (by omega)]
    show foldO gS xs (x :: l) = _
    rw [gS_all xs (x :: l) (by rw [List.length_cons]; omega)]
    simp
theorem st_len : ∀ l : List Rat, (stQ l).length = l.length
  | [] => rfl
  | p :: l => by show (stQ l).length + 1 = _; rw [st_len l]; rfl
theorem cat_Q {v : Rat} {f : List Rat} (h : f.length ≤ 200) : Bop .add (.lst [dQ v]) (.lst (f.map dQ)) (.lst ((v :: f).map dQ)) := ⟨by
  show (if 1 + (f.map dQ).length ≤ line then some (D.lst (dQ v :: f.map dQ)) else none) = _
  rw [List.length_map, if_pos (by unfold line; omega)]
  rfl⟩
abbrev dL (c : List Rat) : D := .tup (c.map dQ)
def sBody : Ss := forB (nthS 2 f_start_chances.body)
theorem starts_cl {k : Nat} {c : List Rat} {w : List D} (h : Chs c) (hl : c.length ≤ 40) : Cl (VI.run PR (k + 4)) 10 [dL c] w (.ok (.lst ((stQ c).map dQ)) w) := by
  refine r_ret rfl rfl rfl ?_
  have hf : foldO gS c.reverse [] = some c := by rw [gS_all _ _ (by simp; omega)]; simp
  obtain ⟨env2, e2, t4, t5, rfl, _⟩ := for_fold (w := w) dQ (fun (l : List Rat) env => ∃ t4 t5, env = [some (dL c), some (.lst ((stQ l).map dQ)), some (dQ (noneQ l)), some (dQ (ownQ l)), t4, t5] ∧ Chs l) gS c.reverse [] [some (dL c), some (.lst []), some (dQ 1), some (dQ 0), none, none] c ⟨_, _, rfl, fun _ h => absurd h List.not_mem_nil⟩ hf (f := fun d env => M.bind (liftO (bindT (.nm 4) d env)) fun env' => execs (VI.run PR (k + 3)) (etOf PR) ar sBody env')
    (by
      rintro p hp l env l1 ⟨t4, t5, rfl, hc⟩ hs
      have hp := h p (List.mem_reverse.mp hp)
      unfold gS at hs
      split at hs
      · rename_i hlen
        cases hs
        have b := ob40 l.length (by omega)
        have n := none_sz hc (by omega)
        have o := own_sz hc (by omega)
        have t1 := (tmQ hp.sz n (by omega)).2
        have t2 := (tmQ hp.one_sub.1 o (by omega)).2
        have q0 := fun w => hp.one_sub.2 (k := k) (w := w)
        have q1 := fun w => tm (k := k) (w := w) hp.sz n (by omega)
        have q2 := fun w => tm (k := k) (w := w) hp.one_sub.1 o (by omega)
        have q3 := fun w => pl (k := k) (w := w) t1 t2 (by omega)
        have q4 := fun w => tm (k := k) (w := w) n hp.one_sub.1 (by omega)
        have ct := cat_Q (v := ownQ (p :: l)) (f := stQ l) (by rw [st_len]; omega)
        have i0 : ∀ w, Idx (dQ p) (.int 0) w (.ok (.int p.num) w) := fun w => ⟨rfl⟩
        have i1 : ∀ w, Idx (dQ p) (.int 1) w (.ok (.int (p.den : Int)) w) := fun w => ⟨rfl⟩
        refine ⟨[some (dL c), some (.lst ((stQ (p :: l)).map dQ)), some (dQ (noneQ (p :: l))), some (dQ (ownQ (p :: l))), some (dQ p), some (dQ (1 - p))], bind_ok' (w1 := w) (a := [some (dL c), some (.lst ((stQ l).map dQ)), some (dQ (noneQ l)), some (dQ (ownQ l)), some (dQ p), t5]) rfl (Xs.q ?_), ⟨_, _, rfl, fun q hq => ?_⟩⟩
        · repeat' (first | exact i0 _ | exact i1 _ | exact q0 _ | exact q1 _ | exact q2 _ | exact q3 _ | exact q4 _ | exact ct | exact v_con | exact v_nil | refine' v_var ?_ | exact Get.mk rfl | refine' v_cons ?_ ?_ | refine' v_tup ?_ | refine' v_lst ?_ | refine' v_neg ?_ ?_ | refine' v_not ?_ ?_ | refine' v_bin ?_ ?_ ?_ | refine' v_cmp ?_ ?_ ?_ | refine' v_and ?_ ?_ | refine' v_or ?_ ?_ | refine' v_ite ?_ ?_ | refine' v_chain ?_ ?_ ?_ ?_ | refine' v_bi ?_ ?_ | refine' v_idx ?_ ?_ ?_ | refine' v_isi ?_ ?_ | refine' v_slLo ?_ ?_ ?_ | refine' v_slHi ?_ ?_ ?_ | refine' v_slBo ?_ ?_ ?_ ?_ | refine' v_mjoin ?_ ?_ ?_ | refine' v_call ?_ ?_ | refine' v_callv ?_ ?_ ?_ ?_ | refine' v_err ?_ ?_ | exact Tru.mk rfl | refine' AndV.t (Tru.mk rfl) _ _ ?_ | exact AndV.f (Tru.mk rfl) | refine' OrV.f (Tru.mk rfl) _ _ ?_ | exact OrV.t (Tru.mk rfl) | refine' ChV.t (Tru.mk rfl) _ _ _ ?_ ?_ | exact ChV.f (Tru.mk rfl) | refine' IteV.t (Tru.mk rfl) ?_ | refine' IteV.f (Tru.mk rfl) ?_ | refine' IteS.t (Tru.mk rfl) ?_ | refine' IteS.f (Tru.mk rfl) ?_ | exact s_nil | exact s_raise | refine' s_ret ?_ | refine' s_asg ?_ rfl ?_ | refine' s_asg ?_ ?_ ?_ | (show VI.bindT _ _ _ = some _; rfl) | refine' s_par ?_ ?_ ?_ | refine' s_expr ?_ ?_ | refine' s_ite ?_ ?_ | refine' s_app ?_ ?_ ?_ ?_ | refine' q_nil ?_ | refine' q_ret ?_ | exact q_raise | refine' q_asg ?_ rfl ?_ | refine' q_asg ?_ ?_ ?_ | refine' q_par ?_ ?_ ?_ | refine' q_expr ?_ ?_ | refine' q_ite ?_ | exact o_add | exact o_sub | refine' o_mul ?_ | refine' o_fdiv ?_ | refine' o_mod ?_ | exact o_neg | exact o_abs | exact o_int | exact o_gcd | exact o_lenT | exact o_lenL | exact o_eqI | exact o_ltI | exact o_leI | exact o_gtI | exact o_geI | exact o_neI | (show VI.setParts _ _ _ = some _; rfl) | (show VI.isSeq _ = some _; rfl) | exact Bop.mk rfl | exact Cop.mk rfl | exact Bin.mk rfl | exact Ngd.mk rfl | exact Isd.mk rfl | exact Idx.mk rfl | exact Ctd.mk rfl | exact Jnd.mk rfl)
        · rcases List.mem_cons.mp hq with rfl | hq
          · exact hp
          · exact hc q hq
      · cases hs)
  rw [List.map_reverse] at e2
  repeat' (first | (refine' v_rev ?_) | (refine' s_for ?_ ?_ e2 ?_) | exact v_con | exact v_nil | refine' v_var ?_ | exact Get.mk rfl | refine' v_cons ?_ ?_ | refine' v_tup ?_ | refine' v_lst ?_ | refine' v_neg ?_ ?_ | refine' v_not ?_ ?_ | refine' v_bin ?_ ?_ ?_ | refine' v_cmp ?_ ?_ ?_ | refine' v_and ?_ ?_ | refine' v_or ?_ ?_ | refine' v_ite ?_ ?_ | refine' v_chain ?_ ?_ ?_ ?_ | refine' v_bi ?_ ?_ | refine' v_idx ?_ ?_ ?_ | refine' v_isi ?_ ?_ | refine' v_slLo ?_ ?_ ?_ | refine' v_slHi ?_ ?_ ?_ | refine' v_slBo ?_ ?_ ?_ ?_ | refine' v_mjoin ?_ ?_ ?_ | refine' v_call ?_ ?_ | refine' v_callv ?_ ?_ ?_ ?_ | refine' v_err ?_ ?_ | exact Tru.mk rfl | refine' AndV.t (Tru.mk rfl) _ _ ?_ | exact AndV.f (Tru.mk rfl) | refine' OrV.f (Tru.mk rfl) _ _ ?_ | exact OrV.t (Tru.mk rfl) | refine' ChV.t (Tru.mk rfl) _ _ _ ?_ ?_ | exact ChV.f (Tru.mk rfl) | refine' IteV.t (Tru.mk rfl) ?_ | refine' IteV.f (Tru.mk rfl) ?_ | refine' IteS.t (Tru.mk rfl) ?_ | refine' IteS.f (Tru.mk rfl) ?_ | exact s_nil | exact s_raise | refine' s_ret ?_ | refine' s_asg ?_ rfl ?_ | refine' s_asg ?_ ?_ ?_ | (show VI.bindT _ _ _ = some _; rfl) | refine' s_par ?_ ?_ ?_ | refine' s_expr ?_ ?_ | refine' s_ite ?_ ?_ | refine' s_app ?_ ?_ ?_ ?_ | refine' q_nil ?_ | refine' q_ret ?_ | exact q_raise | refine' q_asg ?_ rfl ?_ | refine' q_asg ?_ ?_ ?_ | refine' q_par ?_ ?_ ?_ | refine' q_expr ?_ ?_ | refine' q_ite ?_ | exact o_add | exact o_sub | refine' o_mul ?_ | refine' o_fdiv ?_ | refine' o_mod ?_ | exact o_neg | exact o_abs | exact o_int | exact o_gcd | exact o_lenT | exact o_lenL | exact o_eqI | exact o_ltI | exact o_leI | exact o_gtI | exact o_geI | exact o_neI | (show VI.setParts _ _ _ = some _; rfl) | (show VI.isSeq _ = some _; rfl) | exact Bop.mk rfl | exact Cop.mk rfl | exact Bin.mk rfl | exact Ngd.mk rfl | exact Isd.mk rfl | exact Idx.mk rfl | exact Ctd.mk rfl | exact Jnd.mk rfl)
/-- the greatest one -/
def mxQ (f x : Rat) : Rat := if f < x then x else f
def bestQ (c : List Rat) : Rat := (stQ c).foldl mxQ 0
def gM (x f : Rat) : Option Rat := some (mxQ f x)
theorem gM_all : ∀ (xs : List Rat) (f : Rat), foldO gM xs f = some (xs.foldl mxQ f)
  | [], _ => rfl
  | x :: xs, f => gM_all xs (mxQ f x)
theorem st_sz {c : List Rat} (h : Chs c) (hl : c.length ≤ 40) : ∀ x ∈ stQ c, Sz 4381 x := by
  induction c with
  | nil => exact fun x hx => absurd hx List.not_mem_nil
  | cons p l ih =>
    rw [List.length_cons] at hl
    intro x hx
    rcases List.mem_cons.mp hx with rfl | hx
    · exact (own_sz h (by rw [List.length_cons]; exact hl)).mono (ob40 _ (by rw [List.length_cons]; omega))
    · exact ih h.tail (by omega) x hx
def mBody : Ss := forB (nthS 1 f_best_in.body)
theorem best_cl {k : Nat} {c : List Rat} {w : List D} (h : Chs c) (hl : c.length ≤ 40) : Cl (VI.run PR (k + 5)) 12 [dL c] w (.ok (dQ (bestQ c)) w) := by
  refine r_ret rfl rfl rfl ?_
  have st := fun w => starts_cl (k := k) (w := w) h hl
  have sz := st_sz h hl
  obtain ⟨env2, e2, t2, rfl, _⟩ := for_fold (w := w) dQ (fun (f : Rat) env => ∃ t2, env = [some (dL c), some (dQ f), t2] ∧ Sz 4381 f) gM (stQ c) 0 [some (dL c), some (dQ 0), none] (bestQ c) ⟨_, rfl, sz0.mono (by decide)⟩ (gM_all _ _) (f := fun d env => M.bind (liftO (bindT (.nm 2) d env)) fun env' => execs (VI.run PR (k + 4)) (etOf PR) ar mBody env')
    (by
      rintro x hx f env f1 ⟨t2, rfl, hf⟩ hs
      cases hs
      obtain ⟨l, l1, l2, l3⟩ := ldQ (sz x hx) hf (by decide) (by decide)
      have q := fun w => le (k := k + 1) (w := w) l1
      by_cases z : f < x
      · have cg : Cop .gt (.int l) (.int 0) true := ⟨congrArg some (decide_eq_true (l3.mpr z))⟩
        rw [show mxQ f x = x from if_pos z]
        refine ⟨[some (dL c), some (dQ x), some (dQ x)], bind_ok' (w1 := w) (a := [some (dL c), some (dQ f), some (dQ x)]) rfl (Xs.q ?_), ⟨_, rfl, sz x hx⟩⟩
        repeat' (first | exact q _ | exact cg | exact v_con | exact v_nil | refine' v_var ?_ | exact Get.mk rfl | refine' v_cons ?_ ?_ | refine' v_tup ?_ | refine' v_lst ?_ | refine' v_neg ?_ ?_ | refine' v_not ?_ ?_ | refine' v_bin ?_ ?_ ?_ | refine' v_cmp ?_ ?_ ?_ | refine' v_and ?_ ?_ | refine' v_or ?_ ?_ | refine' v_ite ?_ ?_ | refine' v_chain ?_ ?_ ?_ ?_ | refine' v_bi ?_ ?_ | refine' v_idx ?_ ?_ ?_ | refine' v_isi ?_ ?_ | refine' v_slLo ?_ ?_ ?_ | refine' v_slHi ?_ ?_ ?_ | refine' v_slBo ?_ ?_ ?_ ?_ | refine' v_mjoin ?_ ?_ ?_ | refine' v_call ?_ ?_ | refine' v_callv ?_ ?_ ?_ ?_ | refine' v_err ?_ ?_ | exact Tru.mk rfl | refine' AndV.t (Tru.mk rfl) _ _ ?_ | exact AndV.f (Tru.mk rfl) | refine' OrV.f (Tru.mk rfl) _ _ ?_ | exact OrV.t (Tru.mk rfl) | refine' ChV.t (Tru.mk rfl) _ _ _ ?_ ?_ | exact ChV.f (Tru.mk rfl) | refine' IteV.t (Tru.mk rfl) ?_ | refine' IteV.f (Tru.mk rfl) ?_ | refine' IteS.t (Tru.mk rfl) ?_ | refine' IteS.f (Tru.mk rfl) ?_ | exact s_nil | exact s_raise | refine' s_ret ?_ | refine' s_asg ?_ rfl ?_ | refine' s_asg ?_ ?_ ?_ | (show VI.bindT _ _ _ = some _; rfl) | refine' s_par ?_ ?_ ?_ | refine' s_expr ?_ ?_ | refine' s_ite ?_ ?_ | refine' s_app ?_ ?_ ?_ ?_ | refine' q_nil ?_ | refine' q_ret ?_ | exact q_raise | refine' q_asg ?_ rfl ?_ | refine' q_asg ?_ ?_ ?_ | refine' q_par ?_ ?_ ?_ | refine' q_expr ?_ ?_ | refine' q_ite ?_ | exact o_add | exact o_sub | refine' o_mul ?_ | refine' o_fdiv ?_ | refine' o_mod ?_ | exact o_neg | exact o_abs | exact o_int | exact o_gcd | exact o_lenT | exact o_lenL | exact o_eqI | exact o_ltI | exact o_leI | exact o_gtI | exact o_geI | exact o_neI | (show VI.setParts _ _ _ = some _; rfl) | (show VI.isSeq _ = some _; rfl) | exact Bop.mk rfl | exact Cop.mk rfl | exact Bin.mk rfl | exact Ngd.mk rfl | exact Isd.mk rfl | exact Idx.mk rfl | exact Ctd.mk rfl | exact Jnd.mk rfl)
      · have cg : Cop .gt (.int l) (.int 0) false := ⟨congrArg some (decide_eq_false fun h => z (l3.mp h))⟩
        rw [show mxQ f x = f from if_neg z]
        refine ⟨[some (dL c), some (dQ f), some (dQ x)], bind_ok' (w1 := w) (a := [some (dL c), some (dQ f), some (dQ x)]) rfl (Xs.q ?_), ⟨_, rfl, hf⟩⟩
        repeat' (first | exact q _ | exact cg | exact v_con | exact v_nil | refine' v_var ?_ | exact Get.mk rfl | refine' v_cons ?_ ?_ | refine' v_tup ?_ | refine' v_lst ?_ | refine' v_neg ?_ ?_ | refine' v_not ?_ ?_ | refine' v_bin ?_ ?_ ?_ | refine' v_cmp ?_ ?_ ?_ | refine' v_and ?_ ?_ | refine' v_or ?_ ?_ | refine' v_ite ?_ ?_ | refine' v_chain ?_ ?_ ?_ ?_ | refine' v_bi ?_ ?_ | refine' v_idx ?_ ?_ ?_ | refine' v_isi ?_ ?_ | refine' v_slLo ?_ ?_ ?_ | refine' v_slHi ?_ ?_ ?_ | refine' v_slBo ?_ ?_ ?_ ?_ | refine' v_mjoin ?_ ?_ ?_ | refine' v_call ?_ ?_ | refine' v_callv ?_ ?_ ?_ ?_ | refine' v_err ?_ ?_ | exact Tru.mk rfl | refine' AndV.t (Tru.mk rfl) _ _ ?_ | exact AndV.f (Tru.mk rfl) | refine' OrV.f (Tru.mk rfl) _ _ ?_ | exact OrV.t (Tru.mk rfl) | refine' ChV.t (Tru.mk rfl) _ _ _ ?_ ?_ | exact ChV.f (Tru.mk rfl) | refine' IteV.t (Tru.mk rfl) ?_ | refine' IteV.f (Tru.mk rfl) ?_ | refine' IteS.t (Tru.mk rfl) ?_ | refine' IteS.f (Tru.mk rfl) ?_ | exact s_nil | exact s_raise | refine' s_ret ?_ | refine' s_asg ?_ rfl ?_ | refine' s_asg ?_ ?_ ?_ | (show VI.bindT _ _ _ = some _; rfl) | refine' s_par ?_ ?_ ?_ | refine' s_expr ?_ ?_ | refine' s_ite ?_ ?_ | refine' s_app ?_ ?_ ?_ ?_ | refine' q_nil ?_ | refine' q_ret ?_ | exact q_raise | refine' q_asg ?_ rfl ?_ | refine' q_asg ?_ ?_ ?_ | refine' q_par ?_ ?_ ?_ | refine' q_expr ?_ ?_ | refine' q_ite ?_ | exact o_add | exact o_sub | refine' o_mul ?_ | refine' o_fdiv ?_ | refine' o_mod ?_ | exact o_neg | exact o_abs | exact o_int | exact o_gcd | exact o_lenT | exact o_lenL | exact o_eqI | exact o_ltI | exact o_leI | exact o_gtI | exact o_geI | exact o_neI | (show VI.setParts _ _ _ = some _; rfl) | (show VI.isSeq _ = some _; rfl) | exact Bop.mk rfl | exact Cop.mk rfl | exact Bin.mk rfl | exact Ngd.mk rfl | exact Isd.mk rfl | exact Idx.mk rfl | exact Ctd.mk rfl | exact Jnd.mk rfl))
  repeat' (first | exact st _ | (refine' s_for ?_ ?_ e2 ?_) | exact v_con | exact v_nil | refine' v_var ?_ | exact Get.mk rfl | refine' v_cons ?_ ?_ | refine' v_tup ?_ | refine' v_lst ?_ | refine' v_neg ?_ ?_ | refine' v_not ?_ ?_ | refine' v_bin ?_ ?_ ?_ | refine' v_cmp ?_ ?_ ?_ | refine' v_and ?_ ?_ | refine' v_or ?_ ?_ | refine' v_ite ?_ ?_ | refine' v_chain ?_ ?_ ?_ ?_ | refine' v_bi ?_ ?_ | refine' v_idx ?_ ?_ ?_ | refine' v_isi ?_ ?_ | refine' v_slLo ?_ ?_ ?_ | refine' v_slHi ?_ ?_ ?_ | refine' v_slBo ?_ ?_ ?_ ?_ | refine' v_mjoin ?_ ?_ ?_ | refine' v_call ?_ ?_ | refine' v_callv ?_ ?_ ?_ ?_ | refine' v_err ?_ ?_ | exact Tru.mk rfl | refine' AndV.t (Tru.mk rfl) _ _ ?_ | exact AndV.f (Tru.mk rfl) | refine' OrV.f (Tru.mk rfl) _ _ ?_ | exact OrV.t (Tru.mk rfl) | refine' ChV.t (Tru.mk rfl) _ _ _ ?_ ?_ | exact ChV.f (Tru.mk rfl) | refine' IteV.t (Tru.mk rfl) ?_ | refine' IteV.f (Tru.mk rfl) ?_ | refine' IteS.t (Tru.mk rfl) ?_ | refine' IteS.f (Tru.mk rfl) ?_ | exact s_nil | exact s_raise | refine' s_ret ?_ | refine' s_asg ?_ rfl ?_ | refine' s_asg ?_ ?_ ?_ | (show VI.bindT _ _ _ = some _; rfl) | refine' s_par ?_ ?_ ?_ | refine' s_expr ?_ ?_ | refine' s_ite ?_ ?_ | refine' s_app ?_ ?_ ?_ ?_ | refine' q_nil ?_ | refine' q_ret ?_ | exact q_raise | refine' q_asg ?_ rfl ?_ | refine' q_asg ?_ ?_ ?_ | refine' q_par ?_ ?_ ?_ | refine' q_expr ?_ ?_ | refine' q_ite ?_ | exact o_add | exact o_sub | refine' o_mul ?_ | refine' o_fdiv ?_ | refine' o_mod ?_ | exact o_neg | exact o_abs | exact o_int | exact o_gcd | exact o_lenT | exact o_lenL | exact o_eqI | exact o_ltI | exact o_leI | exact o_gtI | exact o_geI | exact o_neI | (show VI.setParts _ _ _ = some _; rfl) | (show VI.isSeq _ = some _; rfl) | exact Bop.mk rfl | exact Cop.mk rfl | exact Bin.mk rfl | exact Ngd.mk rfl | exact Isd.mk rfl | exact Idx.mk rfl | exact Ctd.mk rfl | exact Jnd.mk rfl)
end K28
end
section
set_option maxRecDepth 100000
set_option maxHeartbeats 4000000
namespace K28
open PySem VI VI.Q
/-! ### odds -/
def oddQ : Rat → List Rat → Option Rat
  | t, [] => some t
  | t, p :: l => if p = 1 then none else oddQ (t + p / (1 - p)) l
def oD : Option Rat → D
  | none => .non
  | some r => dQ r
theorem one_iff {x : Rat} (h : Chn x) : x.num = (x.den : Int) ↔ x = 1 := by
  have e := num_eq x
  have d : (x.den : Rat) ≠ 0 := by
    have : (0 : Rat) < (x.den : Rat) := Rat.natCast_pos.mpr x.den_pos
    grind
  constructor
  · intro z
    have z : (x.num : Rat) = (((x.den : Nat) : Int) : Rat) := by rw [z]
    rw [Rat.intCast_natCast] at z
    grind
  · intro z
    subst z
    rfl
theorem odd_eq {x : Rat} : ((x.num : Int) : Rat) / (((x.den : Int) - x.num : Int) : Rat) = x / (1 - x) := by
  have e := num_eq x
  have d : (x.den : Rat) ≠ 0 := by
    have : (0 : Rat) < (x.den : Rat) := Rat.natCast_pos.mpr x.den_pos
    grind
  rw [Rat.intCast_sub, Rat.intCast_natCast, e]
  by_cases h : 1 - x = 0
  · have : x = 1 := by grind
    subst this
    grind
  · grind
theorem Chn.odd {x : Rat} (h : Chn x) (hx : x ≠ 1) : Sz 5 (x / (1 - x)) ∧ (∀ {k w}, Cl (VI.run PR (k + 3)) 4 [.int x.num, .int ((x.den : Int) - x.num)] w (.ok (dQ (x / (1 - x))) w)) ∧ ∀ {k w}, Cl (VI.run PR (k + 3)) 24 [.int x.num, .int ((x.den : Int) - x.num)] w (.ok (dQ (x / (1 - x))) w) := by
  obtain ⟨a, b⟩ := h.num
  have c := h.2.2
  have p := x.den_pos
  have ne : x.num ≠ (x.den : Int) := fun z => hx ((one_iff h).mp z)
  have q := lowQ (t := x.num) (b := (x.den : Int) - x.num) (n := 5) (by omega) (by omega) (by omega) (by omega)
  refine ⟨by rw [← odd_eq (x := x)]; exact q.2, fun {k w} => ?_, fun {k w} => ?_⟩
  · have := lo (k := k) (w := w) (t := x.num) (b := (x.den : Int) - x.num) (n := 5) (by omega) (by omega) (by omega) (by omega)
    rw [odd_eq] at this
    exact this
  · have := llo (k := k) (w := w) (t := x.num) (b := (x.den : Int) - x.num) (n := 5) (by omega) (by omega) (by omega) (by omega)
    rw [odd_eq] at this
    exact this
def oBody : Ss := forB (nthS 1 f_odds_in.body)
def loBody : Ss := forB (nthS 1 f__law_odds.body)
theorem odds_loop {k : Nat} {w : List D} {e0 e1 : Option D} : ∀ (l : List Rat) (t : Rat) (m : Nat) (e3 : Option D), Chs l → Sz m t → m + 6 * l.length ≤ 7000 →
    match oddQ t l with
    | some r => ∃ e3', forL (fun d env => M.bind (liftO (bindT (.nm 3) d env)) fun env' => execs (VI.run PR (k + 3)) (etOf PR) ar oBody env') (l.map dQ) [e0, e1, some (dQ t), e3] w = .ok (.nx [e0, e1, some (dQ r), e3']) w
    | none => forL (fun d env => M.bind (liftO (bindT (.nm 3) d env)) fun env' => execs (VI.run PR (k + 3)) (etOf PR) ar oBody env') (l.map dQ) [e0, e1, some (dQ t), e3] w = .ok (.ret .non) w
  | [], t, m, e3, _, _, _ => ⟨e3, rfl⟩
  | p :: l, t, m, e3, h, ht, hm => by
    rw [List.length_cons] at hm
    unfold oddQ
    have i0 : ∀ w, Idx (dQ p) (.int 0) w (.ok (.int p.num) w) := fun w => ⟨rfl⟩
    have i1 : ∀ w, Idx (dQ p) (.int 1) w (.ok (.int (p.den : Int)) w) := fun w => ⟨rfl⟩
    by_cases z : p = 1
    · rw [if_pos z]
      have ce : Cop .eq (dQ p) (.tup [.int 1, .int 1]) true := by have := eq_QQ p 1; rw [decide_eq_true z] at this; exact this
      have st : M.bind (liftO (bindT (.nm 3) (dQ p) [e0, e1, some (dQ t), e3])) (fun env' => execs (VI.run PR (k + 3)) (etOf PR) ar oBody env') w = .ok (.ret .non) w := by
        refine bind_ok' (w1 := w) (a := [e0, e1, some (dQ t), some (dQ p)]) rfl (Xs.q ?_)
        repeat' (first | exact ce | exact v_con | exact v_nil | refine' v_var ?_ | exact Get.mk rfl | refine' v_cons ?_ ?_ | refine' v_tup ?_ | refine' v_lst ?_ | refine' v_neg ?_ ?_ | refine' v_not ?_ ?_ | refine' v_bin ?_ ?_ ?_ | refine' v_cmp ?_ ?_ ?_ | refine' v_and ?_ ?_ | refine' v_or ?_ ?_ | refine' v_ite ?_ ?_ | refine' v_chain ?_ ?_ ?_ ?_ | refine' v_bi ?_ ?_ | refine' v_idx ?_ ?_ ?_ | refine' v_isi ?_ ?_ | refine' v_slLo ?_ ?_ ?_ | refine' v_slHi ?_ ?_ ?_ | refine' v_slBo ?_ ?_ ?_ ?_ | refine' v_mjoin ?_ ?_ ?_ | refine' v_call ?_ ?_ | refine' v_callv ?_ ?_ ?_ ?_ | refine' v_err ?_ ?_ | exact Tru.mk rfl | refine' AndV.t (Tru.mk rfl) _ _ ?_ | exact AndV.f (Tru.mk rfl) | refine' OrV.f (Tru.mk rfl) _ _ ?_ | exact OrV.t (Tru.mk rfl) | refine' ChV.t (Tru.mk rfl) _ _ _ ?_ ?_ | exact ChV.f (Tru.mk rfl) | refine' IteV.t (Tru.mk rfl) ?_ | refine' IteV.f (Tru.mk rfl) ?_ | refine' IteS.t (Tru.mk rfl) ?_ | refine' IteS.f (Tru.mk rfl) ?_ | exact s_nil | exact s_raise | refine' s_ret ?_ | refine' s_asg ?_ rfl ?_ | refine' s_asg ?_ ?_ ?_ | (show VI.bindT _ _ _ = some _; rfl) | refine' s_par ?_ ?_ ?_ | refine' s_expr ?_ ?_ | refine' s_ite ?_ ?_ | refine' s_app ?_ ?_ ?_ ?_ | refine' q_nil ?_ | refine' q_ret ?_ | exact q_raise | refine' q_asg ?_ rfl ?_ | refine' q_asg ?_ ?_ ?_ | refine' q_par ?_ ?_ ?_ | refine' q_expr ?_ ?_ | refine' q_ite ?_ | exact o_add | exact o_sub | refine' o_mul ?_ | refine' o_fdiv ?_ | refine' o_mod ?_ | exact o_neg | exact o_abs | exact o_int | exact o_gcd | exact o_lenT | exact o_lenL | exact o_eqI | exact o_ltI | exact o_leI | exact o_gtI | exact o_geI | exact o_neI | (show VI.setParts _ _ _ = some _; rfl) | (show VI.isSeq _ = some _; rfl) | exact Bop.mk rfl | exact Cop.mk rfl | exact Bin.mk rfl | exact Ngd.mk rfl | exact Isd.mk rfl | exact Idx.mk rfl | exact Ctd.mk rfl | exact Jnd.mk rfl)
      exact bind_ok' st rfl
    · rw [if_neg z]
      have ce : Cop .eq (dQ p) (.tup [.int 1, .int 1]) false := by have := eq_QQ p 1; rw [decide_eq_false z] at this; exact this
      obtain ⟨o1, o2, _⟩ := h.head.odd z
      have q0 := fun w => o2 (k := k) (w := w)
      have q1 := fun w => pl (k := k) (w := w) ht o1 (by omega)
      have st : M.bind (liftO (bindT (.nm 3) (dQ p) [e0, e1, some (dQ t), e3])) (fun env' => execs (VI.run PR (k + 3)) (etOf PR) ar oBody env') w = .ok (.nx [e0, e1, some (dQ (t + p / (1 - p))), some (dQ p)]) w := by
        refine bind_ok' (w1 := w) (a := [e0, e1, some (dQ t), some (dQ p)]) rfl (Xs.q ?_)
        repeat' (first | exact ce | exact i0 _ | exact i1 _ | exact q0 _ | exact q1 _ | exact v_con | exact v_nil | refine' v_var ?_ | exact Get.mk rfl | refine' v_cons ?_ ?_ | refine' v_tup ?_ | refine' v_lst ?_ | refine' v_neg ?_ ?_ | refine' v_not ?_ ?_ | refine' v_bin ?_ ?_ ?_ | refine' v_cmp ?_ ?_ ?_ | refine' v_and ?_ ?_ | refine' v_or ?_ ?_ | refine' v_ite ?_ ?_ | refine' v_chain ?_ ?_ ?_ ?_ | refine' v_bi ?_ ?_ | refine' v_idx ?_ ?_ ?_ | refine' v_isi ?_ ?_ | refine' v_slLo ?_ ?_ ?_ | refine' v_slHi ?_ ?_ ?_ | refine' v_slBo ?_ ?_ ?_ ?_ | refine' v_mjoin ?_ ?_ ?_ | refine' v_call ?_ ?_ | refine' v_callv ?_ ?_ ?_ ?_ | refine' v_err ?_ ?_ | exact Tru.mk rfl | refine' AndV.t (Tru.mk rfl) _ _ ?_ | exact AndV.f (Tru.mk rfl) | refine' OrV.f (Tru.mk rfl) _ _ ?_ | exact OrV.t (Tru.mk rfl) | refine' ChV.t (Tru.mk rfl) _ _ _ ?_ ?_ | exact ChV.f (Tru.mk rfl) | refine' IteV.t (Tru.mk rfl) ?_ | refine' IteV.f (Tru.mk rfl) ?_ | refine' IteS.t (Tru.mk rfl) ?_ | refine' IteS.f (Tru.mk rfl) ?_ | exact s_nil | exact s_raise | refine' s_ret ?_ | refine' s_asg ?_ rfl ?_ | refine' s_asg ?_ ?_ ?_ | (show VI.bindT _ _ _ = some _; rfl) | refine' s_par ?_ ?_ ?_ | refine' s_expr ?_ ?_ | refine' s_ite ?_ ?_ | refine' s_app ?_ ?_ ?_ ?_ | refine' q_nil ?_ | refine' q_ret ?_ | exact q_raise | refine' q_asg ?_ rfl ?_ | refine' q_asg ?_ ?_ ?_ | refine' q_par ?_ ?_ ?_ | refine' q_expr ?_ ?_ | refine' q_ite ?_ | exact o_add | exact o_sub | refine' o_mul ?_ | refine' o_fdiv ?_ | refine' o_mod ?_ | exact o_neg | exact o_abs | exact o_int | exact o_gcd | exact o_lenT | exact o_lenL | exact o_eqI | exact o_ltI | exact o_leI | exact o_gtI | exact o_geI | exact o_neI | (show VI.setParts _ _ _ = some _; rfl) | (show VI.isSeq _ = some _; rfl) | exact Bop.mk rfl | exact Cop.mk rfl | exact Bin.mk rfl | exact Ngd.mk rfl | exact Isd.mk rfl | exact Idx.mk rfl | exact Ctd.mk rfl | exact Jnd.mk rfl)
      have ih := odds_loop (k := k) (w := w) (e0 := e0) (e1 := e1) l (t + p / (1 - p)) (m + 6) (some (dQ p)) h.tail ((plQ ht o1 (by omega)).2.mono (by omega)) (by omega)
      split
      · rename_i r er
        rw [er] at ih
        obtain ⟨e3', g⟩ := ih
        exact ⟨e3', bind_ok' st g⟩
      · rename_i er
        rw [er] at ih
        exact bind_ok' st ih
theorem cut_Q {c : List Rat} {s : Nat} (h : s ≤ c.length) : Ctd (dL c) (some (s : Int)) none (dL (c.drop s)) := ⟨by
  show some (D.tup (cut (c.map dQ) (some (s : Int)) none)) = _
  refine congrArg (fun l => some (D.tup l)) ?_
  unfold cut
  have e1 : sIx (c.map dQ).length 0 (some (s : Int)) = s := by
    show (if (s : Int) < 0 then ((s : Int) + (c.map dQ).length).toNat else min (s : Int).toNat (c.map dQ).length) = s
    rw [if_neg (by omega), Int.toNat_natCast, List.length_map]
    omega
  have e2 : sIx (c.map dQ).length (c.map dQ).length none = (c.map dQ).length := rfl
  rw [e1, e2, List.map_drop, List.take_of_length_le (by rw [List.length_drop]; omega)]⟩
theorem Chs.drop {c : List Rat} (h : Chs c) (s : Nat) : Chs (c.drop s) := fun q hq => h q (List.mem_of_mem_drop hq)
theorem odds_cl {k s : Nat} {c : List Rat} {w : List D} (h : Chs c) (hl : c.length ≤ 40) (hs : s ≤ c.length) : Cl (VI.run PR (k + 4)) 11 [dL c, dN s] w (.ok (oD (oddQ 0 (c.drop s))) w) := by
  have L := odds_loop (k := k) (w := w) (e0 := some (dL c)) (e1 := some (dN s)) (c.drop s) 0 1 none (h.drop s) sz0 (by rw [List.length_drop]; omega)
  refine r_ret rfl rfl rfl ?_
  split at L
  · rename_i r er
    rw [er]
    obtain ⟨e3, g⟩ := L
    show Xs _ _ _ _ _ _ (.ok (.ret (dQ r)) w)
    repeat' (first | exact cut_Q hs | (refine' s_for ?_ ?_ g ?_) | exact v_con | exact v_nil | refine' v_var ?_ | exact Get.mk rfl | refine' v_cons ?_ ?_ | refine' v_tup ?_ | refine' v_lst ?_ | refine' v_neg ?_ ?_ | refine' v_not ?_ ?_ | refine' v_bin ?_ ?_ ?_ | refine' v_cmp ?_ ?_ ?_ | refine' v_and ?_ ?_ | refine' v_or ?_ ?_ | refine' v_ite ?_ ?_ | refine' v_chain ?_ ?_ ?_ ?_ | refine' v_bi ?_ ?_ | refine' v_idx ?_ ?_ ?_ | refine' v_isi ?_ ?_ | refine' v_slLo ?_ ?_ ?_ | refine' v_slHi ?_ ?_ ?_ | refine' v_slBo ?_ ?_ ?_ ?_ | refine' v_mjoin ?_ ?_ ?_ | refine' v_call ?_ ?_ | refine' v_callv ?_ ?_ ?_ ?_ | refine' v_err ?_ ?_ | exact Tru.mk rfl | refine' AndV.t (Tru.mk rfl) _ _ ?_ | exact AndV.f (Tru.mk rfl) | refine' OrV.f (Tru.mk rfl) _ _ ?_ | exact OrV.t (Tru.mk rfl) | refine' ChV.t (Tru.mk rfl) _ _ _ ?_ ?_ | exact ChV.f (Tru.mk rfl) | refine' IteV.t (Tru.mk rfl) ?_ | refine' IteV.f (Tru.mk rfl) ?_ | refine' IteS.t (Tru.mk rfl) ?_ | refine' IteS.f (Tru.mk rfl) ?_ | exact s_nil | exact s_raise | refine' s_ret ?_ | refine' s_asg ?_ rfl ?_ | refine' s_asg ?_ ?_ ?_ | (show VI.bindT _ _ _ = some _; rfl) | refine' s_par ?_ ?_ ?_ | refine' s_expr ?_ ?_ | refine' s_ite ?_ ?_ | refine' s_app ?_ ?_ ?_ ?_ | refine' q_nil ?_ | refine' q_ret ?_ | exact q_raise | refine' q_asg ?_ rfl ?_ | refine' q_asg ?_ ?_ ?_ | refine' q_par ?_ ?_ ?_ | refine' q_expr ?_ ?_ | refine' q_ite ?_ | exact o_add | exact o_sub | refine' o_mul ?_ | refine' o_fdiv ?_ | refine' o_mod ?_ | exact o_neg | exact o_abs | exact o_int | exact o_gcd | exact o_lenT | exact o_lenL | exact o_eqI | exact o_ltI | exact o_leI | exact o_gtI | exact o_geI | exact o_neI | (show VI.setParts _ _ _ = some _; rfl) | (show VI.isSeq _ = some _; rfl) | exact Bop.mk rfl | exact Cop.mk rfl | exact Bin.mk rfl | exact Ngd.mk rfl | exact Isd.mk rfl | exact Idx.mk rfl | exact Ctd.mk rfl | exact Jnd.mk rfl)
  · rename_i er
    rw [er]
    show Xs _ _ _ _ _ _ (.ok (.ret .non) w)
    repeat' (first | exact cut_Q hs | (refine' s_forRet ?_ ?_ L) | exact v_con | exact v_nil | refine' v_var ?_ | exact Get.mk rfl | refine' v_cons ?_ ?_ | refine' v_tup ?_ | refine' v_lst ?_ | refine' v_neg ?_ ?_ | refine' v_not ?_ ?_ | refine' v_bin ?_ ?_ ?_ | refine' v_cmp ?_ ?_ ?_ | refine' v_and ?_ ?_ | refine' v_or ?_ ?_ | refine' v_ite ?_ ?_ | refine' v_chain ?_ ?_ ?_ ?_ | refine' v_bi ?_ ?_ | refine' v_idx ?_ ?_ ?_ | refine' v_isi ?_ ?_ | refine' v_slLo ?_ ?_ ?_ | refine' v_slHi ?_ ?_ ?_ | refine' v_slBo ?_ ?_ ?_ ?_ | refine' v_mjoin ?_ ?_ ?_ | refine' v_call ?_ ?_ | refine' v_callv ?_ ?_ ?_ ?_ | refine' v_err ?_ ?_ | exact Tru.mk rfl | refine' AndV.t (Tru.mk rfl) _ _ ?_ | exact AndV.f (Tru.mk rfl) | refine' OrV.f (Tru.mk rfl) _ _ ?_ | exact OrV.t (Tru.mk rfl) | refine' ChV.t (Tru.mk rfl) _ _ _ ?_ ?_ | exact ChV.f (Tru.mk rfl) | refine' IteV.t (Tru.mk rfl) ?_ | refine' IteV.f (Tru.mk rfl) ?_ | refine' IteS.t (Tru.mk rfl) ?_ | refine' IteS.f (Tru.mk rfl) ?_ | exact s_nil | exact s_raise | refine' s_ret ?_ | refine' s_asg ?_ rfl ?_ | refine' s_asg ?_ ?_ ?_ | (show VI.bindT _ _ _ = some _; rfl) | refine' s_par ?_ ?_ ?_ | refine' s_expr ?_ ?_ | refine' s_ite ?_ ?_ | refine' s_app ?_ ?_ ?_ ?_ | refine' q_nil ?_ | refine' q_ret ?_ | exact q_raise | refine' q_asg ?_ rfl ?_ | refine' q_asg ?_ ?_ ?_ | refine' q_par ?_ ?_ ?_ | refine' q_expr ?_ ?_ | refine' q_ite ?_ | exact o_add | exact o_sub | refine' o_mul ?_ | refine' o_fdiv ?_ | refine' o_mod ?_ | exact o_neg | exact o_abs | exact o_int | exact o_gcd | exact o_lenT | exact o_lenL | exact o_eqI | exact o_ltI | exact o_leI | exact o_gtI | exact o_geI | exact o_neI | (show VI.setParts _ _ _ = some _; rfl) | (show VI.isSeq _ = some _; rfl) | exact Bop.mk rfl | exact Cop.mk rfl | exact Bin.mk rfl | exact Ngd.mk rfl | exact Isd.mk rfl | exact Idx.mk rfl | exact Ctd.mk rfl | exact Jnd.mk rfl)
theorem lodds_loop {k : Nat} {w : List D} {e0 e1 : Option D} : ∀ (l : List Rat) (t : Rat) (m : Nat) (e3 e4 : Option D), Chs l → Sz m t → m + 6 * l.length ≤ 7000 →
    match oddQ t l with
    | some r => ∃ e3' e4', forL (fun d env => M.bind (liftO (bindT (.tp (.cons (.nm 3) (.cons (.nm 4) .nil))) d env)) fun env' => execs (VI.run PR (k + 3)) (etOf PR) ar loBody env') (l.map dQ) [e0, e1, some (dQ t), e3, e4] w = .ok (.nx [e0, e1, some (dQ r), e3', e4']) w
    | none => forL (fun d env => M.bind (liftO (bindT (.tp (.cons (.nm 3) (.cons (.nm 4) .nil))) d env)) fun env' => execs (VI.run PR (k + 3)) (etOf PR) ar loBody env') (l.map dQ) [e0, e1, some (dQ t), e3, e4] w = .ok (.ret .non) w
  | [], t, m, e3, e4, _, _, _ => ⟨e3, e4, rfl⟩
  | p :: l, t, m, e3, e4, h, ht, hm => by
    rw [List.length_cons] at hm
    unfold oddQ
    by_cases z : p = 1
    · rw [if_pos z]
      have ce : Cop .eq (.int p.num) (.int (p.den : Int)) true := ⟨congrArg some (decide_eq_true ((one_iff h.head).mpr z))⟩
      have st : M.bind (liftO (bindT (.tp (.cons (.nm 3) (.cons (.nm 4) .nil))) (dQ p) [e0, e1, some (dQ t), e3, e4])) (fun env' => execs (VI.run PR (k + 3)) (etOf PR) ar loBody env') w = .ok (.ret .non) w := by
        refine bind_ok' (w1 := w) (a := [e0, e1, some (dQ t), some (.int p.num), some (.int (p.den : Int))]) rfl (Xs.q ?_)
        repeat' (first | exact ce | exact v_con | exact v_nil | refine' v_var ?_ | exact Get.mk rfl | refine' v_cons ?_ ?_ | refine' v_tup ?_ | refine' v_lst ?_ | refine' v_neg ?_ ?_ | refine' v_not ?_ ?_ | refine' v_bin ?_ ?_ ?_ | refine' v_cmp ?_ ?_ ?_ | refine' v_and ?_ ?_ | refine' v_or ?_ ?_ | refine' v_ite ?_ ?_ | refine' v_chain ?_ ?_ ?_ ?_ | refine' v_bi ?_ ?_ | refine' v_idx ?_ ?_ ?_ | refine' v_isi ?_ ?_ | refine' v_slLo ?_ ?_ ?_ | refine' v_slHi ?_ ?_ ?_ | refine' v_slBo ?_ ?_ ?_ ?_ | refine' v_mjoin ?_ ?_ ?_ | refine' v_call ?_ ?_ | refine' v_callv ?_ ?_ ?_ ?_ | refine' v_err ?_ ?_ | exact Tru.mk rfl | refine' AndV.t (Tru.mk rfl) _ _ ?_ | exact AndV.f (Tru.mk rfl) | refine' OrV.f (Tru.mk rfl) _ _ ?_ | exact OrV.t (Tru.mk rfl) | refine' ChV.t (Tru.mk rfl) _ _ _ ?_ ?_ | exact ChV.f (Tru.mk rfl) | refine' IteV.t (Tru.mk rfl) ?_ | refine' IteV.f (Tru.mk rfl) ?_ | refine' IteS.t (Tru.mk rfl) ?_ | refine' IteS.f (Tru.mk rfl) ?_ | exact s_nil | exact s_raise | refine' s_ret ?_ | refine' s_asg ?_ rfl ?_ | refine' s_asg ?_ ?_ ?_ | (show VI.bindT _ _ _ = some _; rfl) | refine' s_par ?_ ?_ ?_ | refine' s_expr ?_ ?_ | refine' s_ite ?_ ?_ | refine' s_app ?_ ?_ ?_ ?_ | refine' q_nil ?_ | refine' q_ret ?_ | exact q_raise | refine' q_asg ?_ rfl ?_ | refine' q_asg ?_ ?_ ?_ | refine' q_par ?_ ?_ ?_ | refine' q_expr ?_ ?_ | refine' q_ite ?_ | exact o_add | exact o_sub | refine' o_mul ?_ | refine' o_fdiv ?_ | refine' o_mod ?_ | exact o_neg | exact o_abs | exact o_int | exact o_gcd | exact o_lenT | exact o_lenL | exact o_eqI | exact o_ltI | exact o_leI | exact o_gtI | exact o_geI | exact o_neI | (show VI.setParts _ _ _ = some _; rfl) | (show VI.isSeq _ = some _; rfl) | exact Bop.mk rfl | exact Cop.mk rfl | exact Bin.mk rfl | exact Ngd.mk rfl | exact Isd.mk rfl | exact Idx.mk rfl | exact Ctd.mk rfl | exact Jnd.mk rfl)
      exact bind_ok' st rfl
    · rw [if_neg z]
      have ce : Cop .eq (.int p.num) (.int (p.den : Int)) false := ⟨congrArg some (decide_eq_false fun q => z ((one_iff h.head).mp q))⟩
      obtain ⟨o1, _, o2⟩ := h.head.odd z
      have q0 := fun w => o2 (k := k) (w := w)
      have q1 := fun w => lpl (k := k) (w := w) ht o1 (by omega)
      have st : M.bind (liftO (bindT (.tp (.cons (.nm 3) (.cons (.nm 4) .nil))) (dQ p) [e0, e1, some (dQ t), e3, e4])) (fun env' => execs (VI.run PR (k + 3)) (etOf PR) ar loBody env') w = .ok (.nx [e0, e1, some (dQ (t + p / (1 - p))), some (.int p.num), some (.int (p.den : Int))]) w := by
        refine bind_ok' (w1 := w) (a := [e0, e1, some (dQ t), some (.int p.num), some (.int (p.den : Int))]) rfl (Xs.q ?_)
        repeat' (first | exact ce | exact q0 _ | exact q1 _ | exact v_con | exact v_nil | refine' v_var ?_ | exact Get.mk rfl | refine' v_cons ?_ ?_ | refine' v_tup ?_ | refine' v_lst ?_ | refine' v_neg ?_ ?_ | refine' v_not ?_ ?_ | refine' v_bin ?_ ?_ ?_ | refine' v_cmp ?_ ?_ ?_ | refine' v_and ?_ ?_ | refine' v_or ?_ ?_ | refine' v_ite ?_ ?_ | refine' v_chain ?_ ?_ ?_ ?_ | refine' v_bi ?_ ?_ | refine' v_idx ?_ ?_ ?_ | refine' v_isi ?_ ?_ | refine' v_slLo ?_ ?_ ?_ | refine' v_slHi ?_ ?_ ?_ | refine' v_slBo ?_ ?_ ?_ ?_ | refine' v_mjoin ?_ ?_ ?_ | refine' v_call ?_ ?_ | refine' v_callv ?_ ?_ ?_ ?_ | refine' v_err ?_ ?_ | exact Tru.mk rfl | refine' AndV.t (Tru.mk rfl) _ _ ?_ | exact AndV.f (Tru.mk rfl) | refine' OrV.f (Tru.mk rfl) _ _ ?_ | exact OrV.t (Tru.mk rfl) | refine' ChV.t (Tru.mk rfl) _ _ _ ?_ ?_ | exact ChV.f (Tru.mk rfl) | refine' IteV.t (Tru.mk rfl) ?_ | refine' IteV.f (Tru.mk rfl) ?_ | refine' IteS.t (Tru.mk rfl) ?_ | refine' IteS.f (Tru.mk rfl) ?_ | exact s_nil | exact s_raise | refine' s_ret ?_ | refine' s_asg ?_ rfl ?_ | refine' s_asg ?_ ?_ ?_ | (show VI.bindT _ _ _ = some _; rfl) | refine' s_par ?_ ?_ ?_ | refine' s_expr ?_ ?_ | refine' s_ite ?_ ?_ | refine' s_app ?_ ?_ ?_ ?_ | refine' q_nil ?_ | refine' q_ret ?_ | exact q_raise | refine' q_asg ?_ rfl ?_ | refine' q_asg ?_ ?_ ?_ | refine' q_par ?_ ?_ ?_ | refine' q_expr ?_ ?_ | refine' q_ite ?_ | exact o_add | exact o_sub | refine' o_mul ?_ | refine' o_fdiv ?_ | refine' o_mod ?_ | exact o_neg | exact o_abs | exact o_int | exact o_gcd | exact o_lenT | exact o_lenL | exact o_eqI | exact o_ltI | exact o_leI | exact o_gtI | exact o_geI | exact o_neI | (show VI.setParts _ _ _ = some _; rfl) | (show VI.isSeq _ = some _; rfl) | exact Bop.mk rfl | exact Cop.mk rfl | exact Bin.mk rfl | exact Ngd.mk rfl | exact Isd.mk rfl | exact Idx.mk rfl | exact Ctd.mk rfl | exact Jnd.mk rfl)
      have ih := lodds_loop (k := k) (w := w) (e0 := e0) (e1 := e1) l (t + p / (1 - p)) (m + 6) (some (.int p.num)) (some (.int (p.den : Int))) h.tail ((plQ ht o1 (by omega)).2.mono (by omega)) (by omega)
      split
      · rename_i r er
        rw [er] at ih
        obtain ⟨e3', e4', g⟩ := ih
        exact ⟨e3', e4', bind_ok' st g⟩
      · rename_i er
        rw [er] at ih
        exact bind_ok' st ih
theorem lodds_cl {k s : Nat} {c : List Rat} {w : List D} (h : Chs c) (hl : c.length ≤ 40) (hs : s ≤ c.length) : Cl (VI.run PR (k + 4)) 33 [dL c, dN s] w (.ok (oD (oddQ 0 (c.drop s))) w) := by
  have L := lodds_loop (k := k) (w := w) (e0 := some (dL c)) (e1 := some (dN s)) (c.drop s) 0 1 none none (h.drop s) sz0 (by rw [List.length_drop]; omega)
  refine r_ret rfl rfl rfl ?_
  split at L
  · rename_i r er
    rw [er]
    obtain ⟨e3, e4, g⟩ := L
    show Xs _ _ _ _ _ _ (.ok (.ret (dQ r)) w)
    repeat' (first | exact cut_Q hs | (refine' s_for ?_ ?_ g ?_) | exact v_con | exact v_nil | refine' v_var ?_ | exact Get.mk rfl | refine' v_cons ?_ ?_ | refine' v_tup ?_ | refine' v_lst ?_ | refine' v_neg ?_ ?_ | refine' v_not ?_ ?_ | refine' v_bin ?_ ?_ ?_ | refine' v_cmp ?_ ?_ ?_ | refine' v_and ?_ ?_ | refine' v_or ?_ ?_ | refine' v_ite ?_ ?_ | refine' v_chain ?_ ?_ ?_ ?_ | refine' v_bi ?_ ?_ | refine' v_idx ?_ ?_ ?_ | refine' v_isi ?_ ?_ | refine' v_slLo ?_ ?_ ?_ | refine' v_slHi ?_ ?_ ?_ | refine' v_slBo ?_ ?_ ?_ ?_ | refine' v_mjoin ?_ ?_ ?_ | refine' v_call ?_ ?_ | refine' v_callv ?_ ?_ ?_ ?_ | refine' v_err ?_ ?_ | exact Tru.mk rfl | refine' AndV.t (Tru.mk rfl) _ _ ?_ | exact AndV.f (Tru.mk rfl) | refine' OrV.f (Tru.mk rfl) _ _ ?_ | exact OrV.t (Tru.mk rfl) | refine' ChV.t (Tru.mk rfl) _ _ _ ?_ ?_ | exact ChV.f (Tru.mk rfl) | refine' IteV.t (Tru.mk rfl) ?_ | refine' IteV.f (Tru.mk rfl) ?_ | refine' IteS.t (Tru.mk rfl) ?_ | refine' IteS.f (Tru.mk rfl) ?_ | exact s_nil | exact s_raise | refine' s_ret ?_ | refine' s_asg ?_ rfl ?_ | refine' s_asg ?_ ?_ ?_ | (show VI.bindT _ _ _ = some _; rfl) | refine' s_par ?_ ?_ ?_ | refine' s_expr ?_ ?_ | refine' s_ite ?_ ?_ | refine' s_app ?_ ?_ ?_ ?_ | refine' q_nil ?_ | refine' q_ret ?_ | exact q_raise | refine' q_asg ?_ rfl ?_ | refine' q_asg ?_ ?_ ?_ | refine' q_par ?_ ?_ ?_ | refine' q_expr ?_ ?_ | refine' q_ite ?_ | exact o_add | exact o_sub | refine' o_mul ?_ | refine' o_fdiv ?_ | refine' o_mod ?_ | exact o_neg | exact o_abs | exact o_int | exact o_gcd | exact o_lenT | exact o_lenL | exact o_eqI | exact o_ltI | exact o_leI | exact o_gtI | exact o_geI | exact o_neI | (show VI.setParts _ _ _ = some _; rfl) | (show VI.isSeq _ = some _; rfl) | exact Bop.mk rfl | exact Cop.mk rfl | exact Bin.mk rfl | exact Ngd.mk rfl | exact Isd.mk rfl | exact Idx.mk rfl | exact Ctd.mk rfl | exact Jnd.mk rfl)
  · rename_i er
    rw [er]
    show Xs _ _ _ _ _ _ (.ok (.ret .non) w)
    repeat' (first | exact cut_Q hs | (refine' s_forRet ?_ ?_ L) | exact v_con | exact v_nil | refine' v_var ?_ | exact Get.mk rfl | refine' v_cons ?_ ?_ | refine' v_tup ?_ | refine' v_lst ?_ | refine' v_neg ?_ ?_ | refine' v_not ?_ ?_ | refine' v_bin ?_ ?_ ?_ | refine' v_cmp ?_ ?_ ?_ | refine' v_and ?_ ?_ | refine' v_or ?_ ?_ | refine' v_ite ?_ ?_ | refine' v_chain ?_ ?_ ?_ ?_ | refine' v_bi ?_ ?_ | refine' v_idx ?_ ?_ ?_ | refine' v_isi ?_ ?_ | refine' v_slLo ?_ ?_ ?_ | refine' v_slHi ?_ ?_ ?_ | refine' v_slBo ?_ ?_ ?_ ?_ | refine' v_mjoin ?_ ?_ ?_ | refine' v_call ?_ ?_ | refine' v_callv ?_ ?_ ?_ ?_ | refine' v_err ?_ ?_ | exact Tru.mk rfl | refine' AndV.t (Tru.mk rfl) _ _ ?_ | exact AndV.f (Tru.mk rfl) | refine' OrV.f (Tru.mk rfl) _ _ ?_ | exact OrV.t (Tru.mk rfl) | refine' ChV.t (Tru.mk rfl) _ _ _ ?_ ?_ | exact ChV.f (Tru.mk rfl) | refine' IteV.t (Tru.mk rfl) ?_ | refine' IteV.f (Tru.mk rfl) ?_ | refine' IteS.t (Tru.mk rfl) ?_ | refine' IteS.f (Tru.mk rfl) ?_ | exact s_nil | exact s_raise | refine' s_ret ?_ | refine' s_asg ?_ rfl ?_ | refine' s_asg ?_ ?_ ?_ | (show VI.bindT _ _ _ = some _; rfl) | refine' s_par ?_ ?_ ?_ | refine' s_expr ?_ ?_ | refine' s_ite ?_ ?_ | refine' s_app ?_ ?_ ?_ ?_ | refine' q_nil ?_ | refine' q_ret ?_ | exact q_raise | refine' q_asg ?_ rfl ?_ | refine' q_asg ?_ ?_ ?_ | refine' q_par ?_ ?_ ?_ | refine' q_expr ?_ ?_ | refine' q_ite ?_ | exact o_add | exact o_sub | refine' o_mul ?_ | refine' o_fdiv ?_ | refine' o_mod ?_ | exact o_neg | exact o_abs | exact o_int | exact o_gcd | exact o_lenT | exact o_lenL | exact o_eqI | exact o_ltI | exact o_leI | exact o_gtI | exact o_geI | exact o_neI | (show VI.setParts _ _ _ = some _; rfl) | (show VI.isSeq _ = some _; rfl) | exact Bop.mk rfl | exact Cop.mk rfl | exact Bin.mk rfl | exact Ngd.mk rfl | exact Isd.mk rfl | exact Idx.mk rfl | exact Ctd.mk rfl | exact Jnd.mk rfl)
/-! ### the judge at right chances -/
theorem whole_ok {k : Nat} {w : List D} {v lo hi : Int} (h1 : lo ≤ v) (h2 : v ≤ hi) : Cl (VI.run PR (k + 1)) 0 [.int v, .int lo, .int hi] w (.ok (.bl true) w) := whole_cl (i := 0) (k := k) rfl h1 h2
theorem needW {k : Nat} {w : List D} {v lo hi : Int} (h1 : lo ≤ v) (h2 : v ≤ hi) : Cl (VI.run PR (k + 2)) 1 [.int v, .int lo, .int hi] w (.ok .non w) := by
  refine r_nx rfl rfl rfl (env' := [some (.int v), some (.int lo), some (.int hi)]) ?_
  repeat' (first | exact whole_ok h1 h2 | exact v_con | exact v_nil | refine' v_var ?_ | exact Get.mk rfl | refine' v_cons ?_ ?_ | refine' v_tup ?_ | refine' v_lst ?_ | refine' v_neg ?_ ?_ | refine' v_not ?_ ?_ | refine' v_bin ?_ ?_ ?_ | refine' v_cmp ?_ ?_ ?_ | refine' v_and ?_ ?_ | refine' v_or ?_ ?_ | refine' v_ite ?_ ?_ | refine' v_chain ?_ ?_ ?_ ?_ | refine' v_bi ?_ ?_ | refine' v_idx ?_ ?_ ?_ | refine' v_isi ?_ ?_ | refine' v_slLo ?_ ?_ ?_ | refine' v_slHi ?_ ?_ ?_ | refine' v_slBo ?_ ?_ ?_ ?_ | refine' v_mjoin ?_ ?_ ?_ | refine' v_call ?_ ?_ | refine' v_callv ?_ ?_ ?_ ?_ | refine' v_err ?_ ?_ | exact Tru.mk rfl | refine' AndV.t (Tru.mk rfl) _ _ ?_ | exact AndV.f (Tru.mk rfl) | refine' OrV.f (Tru.mk rfl) _ _ ?_ | exact OrV.t (Tru.mk rfl) | refine' ChV.t (Tru.mk rfl) _ _ _ ?_ ?_ | exact ChV.f (Tru.mk rfl) | refine' IteV.t (Tru.mk rfl) ?_ | refine' IteV.f (Tru.mk rfl) ?_ | refine' IteS.t (Tru.mk rfl) ?_ | refine' IteS.f (Tru.mk rfl) ?_ | exact s_nil | exact s_raise | refine' s_ret ?_ | refine' s_asg ?_ rfl ?_ | refine' s_asg ?_ ?_ ?_ | (show VI.bindT _ _ _ = some _; rfl) | refine' s_par ?_ ?_ ?_ | refine' s_expr ?_ ?_ | refine' s_ite ?_ ?_ | refine' s_app ?_ ?_ ?_ ?_ | refine' q_nil ?_ | refine' q_ret ?_ | exact q_raise | refine' q_asg ?_ rfl ?_ | refine' q_asg ?_ ?_ ?_ | refine' q_par ?_ ?_ ?_ | refine' q_expr ?_ ?_ | refine' q_ite ?_ | exact o_add | exact o_sub | refine' o_mul ?_ | refine' o_fdiv ?_ | refine' o_mod ?_ | exact o_neg | exact o_abs | exact o_int | exact o_gcd | exact o_lenT | exact o_lenL | exact o_eqI | exact o_ltI | exact o_leI | exact o_gtI | exact o_geI | exact o_neI | (show VI.setParts _ _ _ = some _; rfl) | (show VI.isSeq _ = some _; rfl) | exact Bop.mk rfl | exact Cop.mk rfl | exact Bin.mk rfl | exact Ngd.mk rfl | exact Isd.mk rfl | exact Idx.mk rfl | exact Ctd.mk rfl | exact Jnd.mk rfl)
theorem tuple_ok {k : Nat} {w : List D} {xs : List D} {lo hi : Nat} (h1 : lo ≤ xs.length) (h2 : xs.length ≤ hi) : Cl (VI.run PR (k + 1)) 2 [.tup xs, dN lo, dN hi] w (.ok (.bl true) w) := by
  refine r_ret rfl rfl rfl ?_
  have ln : Bin .len [.tup xs] (dN xs.length) := ⟨rfl⟩
  have a : Cop .le (dN lo) (dN xs.length) true := ⟨congrArg some (decide_eq_true (by omega))⟩
  have b : Cop .le (dN xs.length) (dN hi) true := ⟨congrArg some (decide_eq_true (by omega))⟩
  repeat' (first | exact ln | exact a | exact b | exact v_con | exact v_nil | refine' v_var ?_ | exact Get.mk rfl | refine' v_cons ?_ ?_ | refine' v_tup ?_ | refine' v_lst ?_ | refine' v_neg ?_ ?_ | refine' v_not ?_ ?_ | refine' v_bin ?_ ?_ ?_ | refine' v_cmp ?_ ?_ ?_ | refine' v_and ?_ ?_ | refine' v_or ?_ ?_ | refine' v_ite ?_ ?_ | refine' v_chain ?_ ?_ ?_ ?_ | refine' v_bi ?_ ?_ | refine' v_idx ?_ ?_ ?_ | refine' v_isi ?_ ?_ | refine' v_slLo ?_ ?_ ?_ | refine' v_slHi ?_ ?_ ?_ | refine' v_slBo ?_ ?_ ?_ ?_ | refine' v_mjoin ?_ ?_ ?_ | refine' v_call ?_ ?_ | refine' v_callv ?_ ?_ ?_ ?_ | refine' v_err ?_ ?_ | exact Tru.mk rfl | refine' AndV.t (Tru.mk rfl) _ _ ?_ | exact AndV.f (Tru.mk rfl) | refine' OrV.f (Tru.mk rfl) _ _ ?_ | exact OrV.t (Tru.mk rfl) | refine' ChV.t (Tru.mk rfl) _ _ _ ?_ ?_ | exact ChV.f (Tru.mk rfl) | refine' IteV.t (Tru.mk rfl) ?_ | refine' IteV.f (Tru.mk rfl) ?_ | refine' IteS.t (Tru.mk rfl) ?_ | refine' IteS.f (Tru.mk rfl) ?_ | exact s_nil | exact s_raise | refine' s_ret ?_ | refine' s_asg ?_ rfl ?_ | refine' s_asg ?_ ?_ ?_ | (show VI.bindT _ _ _ = some _; rfl) | refine' s_par ?_ ?_ ?_ | refine' s_expr ?_ ?_ | refine' s_ite ?_ ?_ | refine' s_app ?_ ?_ ?_ ?_ | refine' q_nil ?_ | refine' q_ret ?_ | exact q_raise | refine' q_asg ?_ rfl ?_ | refine' q_asg ?_ ?_ ?_ | refine' q_par ?_ ?_ ?_ | refine' q_expr ?_ ?_ | refine' q_ite ?_ | exact o_add | exact o_sub | refine' o_mul ?_ | refine' o_fdiv ?_ | refine' o_mod ?_ | exact o_neg | exact o_abs | exact o_int | exact o_gcd | exact o_lenT | exact o_lenL | exact o_eqI | exact o_ltI | exact o_leI | exact o_gtI | exact o_geI | exact o_neI | (show VI.setParts _ _ _ = some _; rfl) | (show VI.isSeq _ = some _; rfl) | exact Bop.mk rfl | exact Cop.mk rfl | exact Bin.mk rfl | exact Ngd.mk rfl | exact Isd.mk rfl | exact Idx.mk rfl | exact Ctd.mk rfl | exact Jnd.mk rfl)
theorem portion_ok {k : Nat} {w : List D} {x : Rat} (h : Chn x) : Cl (VI.run PR (k + 2)) 3 [dQ x] w (.ok (.bl true) w) := by
  obtain ⟨a, b⟩ := h.num
  have c := h.2.2
  have p := x.den_pos
  refine r_ret rfl rfl rfl ?_
  have t : ∀ w, Cl (VI.run PR (k + 1)) 2 [dQ x, .int 2, .int 2] w (.ok (.bl true) w) := fun w => tuple_ok (lo := 2) (hi := 2) (by show 2 ≤ 2; decide) (by show 2 ≤ 2; decide)
  have i0 : ∀ w, Idx (dQ x) (.int 0) w (.ok (.int x.num) w) := fun w => ⟨rfl⟩
  have i1 : ∀ w, Idx (dQ x) (.int 1) w (.ok (.int (x.den : Int)) w) := fun w => ⟨rfl⟩
  have g : Bin .gcd [.int x.num, .int (x.den : Int)] (.int 1) := ⟨by
    show some (D.int (Nat.gcd x.num.natAbs ((x.den : Int)).natAbs : Nat)) = _
    rw [Int.natAbs_natCast, x.reduced]
    rfl⟩
  have w1 := fun w => whole_ok (k := k) (w := w) (v := x.num) (lo := -1000000000000000000000000000000000000000000000000000000000000) (hi := 1000000000000000000000000000000000000000000000000000000000000) (by omega) (by omega)
  have w2 := fun w => whole_ok (k := k) (w := w) (v := (x.den : Int)) (lo := 1) (hi := 1000000000000000000000000000000000000000000000000000000000000) (by omega) (by omega)
  repeat' (first | exact t _ | exact i0 _ | exact i1 _ | exact w1 _ | exact w2 _ | exact g | exact v_con | exact v_nil | refine' v_var ?_ | exact Get.mk rfl | refine' v_cons ?_ ?_ | refine' v_tup ?_ | refine' v_lst ?_ | refine' v_neg ?_ ?_ | refine' v_not ?_ ?_ | refine' v_bin ?_ ?_ ?_ | refine' v_cmp ?_ ?_ ?_ | refine' v_and ?_ ?_ | refine' v_or ?_ ?_ | refine' v_ite ?_ ?_ | refine' v_chain ?_ ?_ ?_ ?_ | refine' v_bi ?_ ?_ | refine' v_idx ?_ ?_ ?_ | refine' v_isi ?_ ?_ | refine' v_slLo ?_ ?_ ?_ | refine' v_slHi ?_ ?_ ?_ | refine' v_slBo ?_ ?_ ?_ ?_ | refine' v_mjoin ?_ ?_ ?_ | refine' v_call ?_ ?_ | refine' v_callv ?_ ?_ ?_ ?_ | refine' v_err ?_ ?_ | exact Tru.mk rfl | refine' AndV.t (Tru.mk rfl) _ _ ?_ | exact AndV.f (Tru.mk rfl) | refine' OrV.f (Tru.mk rfl) _ _ ?_ | exact OrV.t (Tru.mk rfl) | refine' ChV.t (Tru.mk rfl) _ _ _ ?_ ?_ | exact ChV.f (Tru.mk rfl) | refine' IteV.t (Tru.mk rfl) ?_ | refine' IteV.f (Tru.mk rfl) ?_ | refine' IteS.t (Tru.mk rfl) ?_ | refine' IteS.f (Tru.mk rfl) ?_ | exact s_nil | exact s_raise | refine' s_ret ?_ | refine' s_asg ?_ rfl ?_ | refine' s_asg ?_ ?_ ?_ | (show VI.bindT _ _ _ = some _; rfl) | refine' s_par ?_ ?_ ?_ | refine' s_expr ?_ ?_ | refine' s_ite ?_ ?_ | refine' s_app ?_ ?_ ?_ ?_ | refine' q_nil ?_ | refine' q_ret ?_ | exact q_raise | refine' q_asg ?_ rfl ?_ | refine' q_asg ?_ ?_ ?_ | refine' q_par ?_ ?_ ?_ | refine' q_expr ?_ ?_ | refine' q_ite ?_ | exact o_add | exact o_sub | refine' o_mul ?_ | refine' o_fdiv ?_ | refine' o_mod ?_ | exact o_neg | exact o_abs | exact o_int | exact o_gcd | exact o_lenT | exact o_lenL | exact o_eqI | exact o_ltI | exact o_leI | exact o_gtI | exact o_geI | exact o_neI | (show VI.setParts _ _ _ = some _; rfl) | (show VI.isSeq _ = some _; rfl) | exact Bop.mk rfl | exact Cop.mk rfl | exact Bin.mk rfl | exact Ngd.mk rfl | exact Isd.mk rfl | exact Idx.mk rfl | exact Ctd.mk rfl | exact Jnd.mk rfl)
theorem alls (n : Nat) : Bin .all [.lst (List.replicate n (.bl true))] (.bl true) := ⟨by
  show (blsD (List.replicate n (.bl true))).map (fun bs => D.bl (bs.all id)) = _
  have : ∀ n, blsD (List.replicate n (D.bl true)) = some (List.replicate n true) := by
    intro n
    induction n with
    | zero => rfl
    | succ n ih =>
      show (blsD (List.replicate n (D.bl true))).map (true :: ·) = _
      rw [ih]; rfl
  rw [this]
  show some (D.bl ((List.replicate n true).all id)) = _
  congr 2
  rw [List.all_eq_true]
  intro x hx
  rw [(List.mem_replicate.mp hx).2]
  rfl⟩
theorem compL_true {f : D → M D} {w : List D} : ∀ (c : List Rat), (∀ x ∈ c, f (dQ x) w = .ok (.bl true) w) → compL f (c.map dQ) w = .ok (List.replicate c.length (.bl true)) w
  | [], _ => rfl
  | x :: c, h => bind_ok' (h x List.mem_cons_self) (bind_ok' (compL_true c fun y hy => h y (List.mem_cons_of_mem _ hy)) rfl)
theorem judge_ok {k : Nat} {c : List Rat} {w : List D} (h : Chs c) (h1 : 1 ≤ c.length) (hl : c.length ≤ 40) : Cl (VI.run PR (k + 3)) 8 [dL c] w (.ok (.bl true) w) := by
  refine r_ret rfl rfl rfl ?_
  have t : ∀ w, Cl (VI.run PR (k + 2)) 2 [dL c, .int 1, .int 40] w (.ok (.bl true) w) := fun w => tuple_ok (lo := 1) (hi := 40) (by rw [List.length_map]; exact h1) (by rw [List.length_map]; exact hl)
  have ll : (c.map dQ).length < line := by rw [List.length_map]; unfold line; omega
  have c1 : Ev (VI.run PR (k + 2)) (etOf PR) ar (.comp (.call 3 (.cons (.var 1) .nil)) (.nm 1) (.var 0)) [some (dL c), none] w (.ok (.lst (List.replicate c.length (.bl true))) w) := by
    refine B.v_comp (s := dL c) (xs := c.map dQ) (w1 := w) ?_ rfl ll (compL_true c fun x hx => ?_)
    · repeat' (first | exact v_con | exact v_nil | refine' v_var ?_ | exact Get.mk rfl | refine' v_cons ?_ ?_ | refine' v_tup ?_ | refine' v_lst ?_ | refine' v_neg ?_ ?_ | refine' v_not ?_ ?_ | refine' v_bin ?_ ?_ ?_ | refine' v_cmp ?_ ?_ ?_ | refine' v_and ?_ ?_ | refine' v_or ?_ ?_ | refine' v_ite ?_ ?_ | refine' v_chain ?_ ?_ ?_ ?_ | refine' v_bi ?_ ?_ | refine' v_idx ?_ ?_ ?_ | refine' v_isi ?_ ?_ | refine' v_slLo ?_ ?_ ?_ | refine' v_slHi ?_ ?_ ?_ | refine' v_slBo ?_ ?_ ?_ ?_ | refine' v_mjoin ?_ ?_ ?_ | refine' v_call ?_ ?_ | refine' v_callv ?_ ?_ ?_ ?_ | refine' v_err ?_ ?_ | exact Tru.mk rfl | refine' AndV.t (Tru.mk rfl) _ _ ?_ | exact AndV.f (Tru.mk rfl) | refine' OrV.f (Tru.mk rfl) _ _ ?_ | exact OrV.t (Tru.mk rfl) | refine' ChV.t (Tru.mk rfl) _ _ _ ?_ ?_ | exact ChV.f (Tru.mk rfl) | refine' IteV.t (Tru.mk rfl) ?_ | refine' IteV.f (Tru.mk rfl) ?_ | refine' IteS.t (Tru.mk rfl) ?_ | refine' IteS.f (Tru.mk rfl) ?_ | exact s_nil | exact s_raise | refine' s_ret ?_ | refine' s_asg ?_ rfl ?_ | refine' s_asg ?_ ?_ ?_ | (show VI.bindT _ _ _ = some _; rfl) | refine' s_par ?_ ?_ ?_ | refine' s_expr ?_ ?_ | refine' s_ite ?_ ?_ | refine' s_app ?_ ?_ ?_ ?_ | refine' q_nil ?_ | refine' q_ret ?_ | exact q_raise | refine' q_asg ?_ rfl ?_ | refine' q_asg ?_ ?_ ?_ | refine' q_par ?_ ?_ ?_ | refine' q_expr ?_ ?_ | refine' q_ite ?_ | exact o_add | exact o_sub | refine' o_mul ?_ | refine' o_fdiv ?_ | refine' o_mod ?_ | exact o_neg | exact o_abs | exact o_int | exact o_gcd | exact o_lenT | exact o_lenL | exact o_eqI | exact o_ltI | exact o_leI | exact o_gtI | exact o_geI | exact o_neI | (show VI.setParts _ _ _ = some _; rfl) | (show VI.isSeq _ = some _; rfl) | exact Bop.mk rfl | exact Cop.mk rfl | exact Bin.mk rfl | exact Ngd.mk rfl | exact Isd.mk rfl | exact Idx.mk rfl | exact Ctd.mk rfl | exact Jnd.mk rfl)
    · have p := fun w => portion_ok (k := k) (w := w) (h x hx)
      refine bind_ok' (w1 := w) (a := [some (dL c), some (dQ x)]) rfl (B.calm_ok (Ev.q ?_))
      repeat' (first | exact p _ | exact v_con | exact v_nil | refine' v_var ?_ | exact Get.mk rfl | refine' v_cons ?_ ?_ | refine' v_tup ?_ | refine' v_lst ?_ | refine' v_neg ?_ ?_ | refine' v_not ?_ ?_ | refine' v_bin ?_ ?_ ?_ | refine' v_cmp ?_ ?_ ?_ | refine' v_and ?_ ?_ | refine' v_or ?_ ?_ | refine' v_ite ?_ ?_ | refine' v_chain ?_ ?_ ?_ ?_ | refine' v_bi ?_ ?_ | refine' v_idx ?_ ?_ ?_ | refine' v_isi ?_ ?_ | refine' v_slLo ?_ ?_ ?_ | refine' v_slHi ?_ ?_ ?_ | refine' v_slBo ?_ ?_ ?_ ?_ | refine' v_mjoin ?_ ?_ ?_ | refine' v_call ?_ ?_ | refine' v_callv ?_ ?_ ?_ ?_ | refine' v_err ?_ ?_ | exact Tru.mk rfl | refine' AndV.t (Tru.mk rfl) _ _ ?_ | exact AndV.f (Tru.mk rfl) | refine' OrV.f (Tru.mk rfl) _ _ ?_ | exact OrV.t (Tru.mk rfl) | refine' ChV.t (Tru.mk rfl) _ _ _ ?_ ?_ | exact ChV.f (Tru.mk rfl) | refine' IteV.t (Tru.mk rfl) ?_ | refine' IteV.f (Tru.mk rfl) ?_ | refine' IteS.t (Tru.mk rfl) ?_ | refine' IteS.f (Tru.mk rfl) ?_ | exact s_nil | exact s_raise | refine' s_ret ?_ | refine' s_asg ?_ rfl ?_ | refine' s_asg ?_ ?_ ?_ | (show VI.bindT _ _ _ = some _; rfl) | refine' s_par ?_ ?_ ?_ | refine' s_expr ?_ ?_ | refine' s_ite ?_ ?_ | refine' s_app ?_ ?_ ?_ ?_ | refine' q_nil ?_ | refine' q_ret ?_ | exact q_raise | refine' q_asg ?_ rfl ?_ | refine' q_asg ?_ ?_ ?_ | refine' q_par ?_ ?_ ?_ | refine' q_expr ?_ ?_ | refine' q_ite ?_ | exact o_add | exact o_sub | refine' o_mul ?_ | refine' o_fdiv ?_ | refine' o_mod ?_ | exact o_neg | exact o_abs | exact o_int | exact o_gcd | exact o_lenT | exact o_lenL | exact o_eqI | exact o_ltI | exact o_leI | exact o_gtI | exact o_geI | exact o_neI | (show VI.setParts _ _ _ = some _; rfl) | (show VI.isSeq _ = some _; rfl) | exact Bop.mk rfl | exact Cop.mk rfl | exact Bin.mk rfl | exact Ngd.mk rfl | exact Isd.mk rfl | exact Idx.mk rfl | exact Ctd.mk rfl | exact Jnd.mk rfl)
  have c2 : Ev (VI.run PR (k + 2)) (etOf PR) ar (.comp (.chain3 .le .le .le (.con (.int 0)) (.idx (.var 1) (.con (.int 0))) (.idx (.var 1) (.con (.int 1))) (.con c_BOTTOM)) (.nm 1) (.var 0)) [some (dL c), none] w (.ok (.lst (List.replicate c.length (.bl true))) w) := by
    refine B.v_comp (s := dL c) (xs := c.map dQ) (w1 := w) ?_ rfl ll (compL_true c fun x hx => ?_)
    · repeat' (first | exact v_con | exact v_nil | refine' v_var ?_ | exact Get.mk rfl | refine' v_cons ?_ ?_ | refine' v_tup ?_ | refine' v_lst ?_ | refine' v_neg ?_ ?_ | refine' v_not ?_ ?_ | refine' v_bin ?_ ?_ ?_ | refine' v_cmp ?_ ?_ ?_ | refine' v_and ?_ ?_ | refine' v_or ?_ ?_ | refine' v_ite ?_ ?_ | refine' v_chain ?_ ?_ ?_ ?_ | refine' v_bi ?_ ?_ | refine' v_idx ?_ ?_ ?_ | refine' v_isi ?_ ?_ | refine' v_slLo ?_ ?_ ?_ | refine' v_slHi ?_ ?_ ?_ | refine' v_slBo ?_ ?_ ?_ ?_ | refine' v_mjoin ?_ ?_ ?_ | refine' v_call ?_ ?_ | refine' v_callv ?_ ?_ ?_ ?_ | refine' v_err ?_ ?_ | exact Tru.mk rfl | refine' AndV.t (Tru.mk rfl) _ _ ?_ | exact AndV.f (Tru.mk rfl) | refine' OrV.f (Tru.mk rfl) _ _ ?_ | exact OrV.t (Tru.mk rfl) | refine' ChV.t (Tru.mk rfl) _ _ _ ?_ ?_ | exact ChV.f (Tru.mk rfl) | refine' IteV.t (Tru.mk rfl) ?_ | refine' IteV.f (Tru.mk rfl) ?_ | refine' IteS.t (Tru.mk rfl) ?_ | refine' IteS.f (Tru.mk rfl) ?_ | exact s_nil | exact s_raise | refine' s_ret ?_ | refine' s_asg ?_ rfl ?_ | refine' s_asg ?_ ?_ ?_ | (show VI.bindT _ _ _ = some _; rfl) | refine' s_par ?_ ?_ ?_ | refine' s_expr ?_ ?_ | refine' s_ite ?_ ?_ | refine' s_app ?_ ?_ ?_ ?_ | refine' q_nil ?_ | refine' q_ret ?_ | exact q_raise | refine' q_asg ?_ rfl ?_ | refine' q_asg ?_ ?_ ?_ | refine' q_par ?_ ?_ ?_ | refine' q_expr ?_ ?_ | refine' q_ite ?_ | exact o_add | exact o_sub | refine' o_mul ?_ | refine' o_fdiv ?_ | refine' o_mod ?_ | exact o_neg | exact o_abs | exact o_int | exact o_gcd | exact o_lenT | exact o_lenL | exact o_eqI | exact o_ltI | exact o_leI | exact o_gtI | exact o_geI | exact o_neI | (show VI.setParts _ _ _ = some _; rfl) | (show VI.isSeq _ = some _; rfl) | exact Bop.mk rfl | exact Cop.mk rfl | exact Bin.mk rfl | exact Ngd.mk rfl | exact Isd.mk rfl | exact Idx.mk rfl | exact Ctd.mk rfl | exact Jnd.mk rfl)
    · obtain ⟨a, b⟩ := (h x hx).num
      have c30 := (h x hx).2.2
      have i0 : ∀ w, Idx (dQ x) (.int 0) w (.ok (.int x.num) w) := fun w => ⟨rfl⟩
      have i1 : ∀ w, Idx (dQ x) (.int 1) w (.ok (.int (x.den : Int)) w) := fun w => ⟨rfl⟩
      have k1 : Cop .le (.int 0) (.int x.num) true := ⟨congrArg some (decide_eq_true a)⟩
      have k2 : Cop .le (.int x.num) (.int (x.den : Int)) true := ⟨congrArg some (decide_eq_true b)⟩
      have k3 : Cop .le (.int (x.den : Int)) c_BOTTOM true := ⟨congrArg some (decide_eq_true (by omega))⟩
      refine bind_ok' (w1 := w) (a := [some (dL c), some (dQ x)]) rfl (B.calm_ok (Ev.q ?_))
      refine v_chain3T (w1 := w) (w2 := w) (w3 := w) ?_ ?_ k1 ?_ k2 ?_ k3
      · repeat' (first | exact v_con | exact v_nil | refine' v_var ?_ | exact Get.mk rfl | refine' v_cons ?_ ?_ | refine' v_tup ?_ | refine' v_lst ?_ | refine' v_neg ?_ ?_ | refine' v_not ?_ ?_ | refine' v_bin ?_ ?_ ?_ | refine' v_cmp ?_ ?_ ?_ | refine' v_and ?_ ?_ | refine' v_or ?_ ?_ | refine' v_ite ?_ ?_ | refine' v_chain ?_ ?_ ?_ ?_ | refine' v_bi ?_ ?_ | refine' v_idx ?_ ?_ ?_ | refine' v_isi ?_ ?_ | refine' v_slLo ?_ ?_ ?_ | refine' v_slHi ?_ ?_ ?_ | refine' v_slBo ?_ ?_ ?_ ?_ | refine' v_mjoin ?_ ?_ ?_ | refine' v_call ?_ ?_ | refine' v_callv ?_ ?_ ?_ ?_ | refine' v_err ?_ ?_ | exact Tru.mk rfl | refine' AndV.t (Tru.mk rfl) _ _ ?_ | exact AndV.f (Tru.mk rfl) | refine' OrV.f (Tru.mk rfl) _ _ ?_ | exact OrV.t (Tru.mk rfl) | refine' ChV.t (Tru.mk rfl) _ _ _ ?_ ?_ | exact ChV.f (Tru.mk rfl) | refine' IteV.t (Tru.mk rfl) ?_ | refine' IteV.f (Tru.mk rfl) ?_ | refine' IteS.t (Tru.mk rfl) ?_ | refine' IteS.f (Tru.mk rfl) ?_ | exact s_nil | exact s_raise | refine' s_ret ?_ | refine' s_asg ?_ rfl ?_ | refine' s_asg ?_ ?_ ?_ | (show VI.bindT _ _ _ = some _; rfl) | refine' s_par ?_ ?_ ?_ | refine' s_expr ?_ ?_ | refine' s_ite ?_ ?_ | refine' s_app ?_ ?_ ?_ ?_ | refine' q_nil ?_ | refine' q_ret ?_ | exact q_raise | refine' q_asg ?_ rfl ?_ | refine' q_asg ?_ ?_ ?_ | refine' q_par ?_ ?_ ?_ | refine' q_expr ?_ ?_ | refine' q_ite ?_ | exact o_add | exact o_sub | refine' o_mul ?_ | refine' o_fdiv ?_ | refine' o_mod ?_ | exact o_neg | exact o_abs | exact o_int | exact o_gcd | exact o_lenT | exact o_lenL | exact o_eqI | exact o_ltI | exact o_leI | exact o_gtI | exact o_geI | exact o_neI | (show VI.setParts _ _ _ = some _; rfl) | (show VI.isSeq _ = some _; rfl) | exact Bop.mk rfl | exact Cop.mk rfl | exact Bin.mk rfl | exact Ngd.mk rfl | exact Isd.mk rfl | exact Idx.mk rfl | exact Ctd.mk rfl | exact Jnd.mk rfl)
      · repeat' (first | exact i0 _ | exact v_con | exact v_nil | refine' v_var ?_ | exact Get.mk rfl | refine' v_cons ?_ ?_ | refine' v_tup ?_ | refine' v_lst ?_ | refine' v_neg ?_ ?_ | refine' v_not ?_ ?_ | refine' v_bin ?_ ?_ ?_ | refine' v_cmp ?_ ?_ ?_ | refine' v_and ?_ ?_ | refine' v_or ?_ ?_ | refine' v_ite ?_ ?_ | refine' v_chain ?_ ?_ ?_ ?_ | refine' v_bi ?_ ?_ | refine' v_idx ?_ ?_ ?_ | refine' v_isi ?_ ?_ | refine' v_slLo ?_ ?_ ?_ | refine' v_slHi ?_ ?_ ?_ | refine' v_slBo ?_ ?_ ?_ ?_ | refine' v_mjoin ?_ ?_ ?_ | refine' v_call ?_ ?_ | refine' v_callv ?_ ?_ ?_ ?_ | refine' v_err ?_ ?_ | exact Tru.mk rfl | refine' AndV.t (Tru.mk rfl) _ _ ?_ | exact AndV.f (Tru.mk rfl) | refine' OrV.f (Tru.mk rfl) _ _ ?_ | exact OrV.t (Tru.mk rfl) | refine' ChV.t (Tru.mk rfl) _ _ _ ?_ ?_ | exact ChV.f (Tru.mk rfl) | refine' IteV.t (Tru.mk rfl) ?_ | refine' IteV.f (Tru.mk rfl) ?_ | refine' IteS.t (Tru.mk rfl) ?_ | refine' IteS.f (Tru.mk rfl) ?_ | exact s_nil | exact s_raise | refine' s_ret ?_ | refine' s_asg ?_ rfl ?_ | refine' s_asg ?_ ?_ ?_ | (show VI.bindT _ _ _ = some _; rfl) | refine' s_par ?_ ?_ ?_ | refine' s_expr ?_ ?_ | refine' s_ite ?_ ?_ | refine' s_app ?_ ?_ ?_ ?_ | refine' q_nil ?_ | refine' q_ret ?_ | exact q_raise | refine' q_asg ?_ rfl ?_ | refine' q_asg ?_ ?_ ?_ | refine' q_par ?_ ?_ ?_ | refine' q_expr ?_ ?_ | refine' q_ite ?_ | exact o_add | exact o_sub | refine' o_mul ?_ | refine' o_fdiv ?_ | refine' o_mod ?_ | exact o_neg | exact o_abs | exact o_int | exact o_gcd | exact o_lenT | exact o_lenL | exact o_eqI | exact o_ltI | exact o_leI | exact o_gtI | exact o_geI | exact o_neI | (show VI.setParts _ _ _ = some _; rfl) | (show VI.isSeq _ = some _; rfl) | exact Bop.mk rfl | exact Cop.mk rfl | exact Bin.mk rfl | exact Ngd.mk rfl | exact Isd.mk rfl | exact Idx.mk rfl | exact Ctd.mk rfl | exact Jnd.mk rfl)
      · repeat' (first | exact i1 _ | exact v_con | exact v_nil | refine' v_var ?_ | exact Get.mk rfl | refine' v_cons ?_ ?_ | refine' v_tup ?_ | refine' v_lst ?_ | refine' v_neg ?_ ?_ | refine' v_not ?_ ?_ | refine' v_bin ?_ ?_ ?_ | refine' v_cmp ?_ ?_ ?_ | refine' v_and ?_ ?_ | refine' v_or ?_ ?_ | refine' v_ite ?_ ?_ | refine' v_chain ?_ ?_ ?_ ?_ | refine' v_bi ?_ ?_ | refine' v_idx ?_ ?_ ?_ | refine' v_isi ?_ ?_ | refine' v_slLo ?_ ?_ ?_ | refine' v_slHi ?_ ?_ ?_ | refine' v_slBo ?_ ?_ ?_ ?_ | refine' v_mjoin ?_ ?_ ?_ | refine' v_call ?_ ?_ | refine' v_callv ?_ ?_ ?_ ?_ | refine' v_err ?_ ?_ | exact Tru.mk rfl | refine' AndV.t (Tru.mk rfl) _ _ ?_ | exact AndV.f (Tru.mk rfl) | refine' OrV.f (Tru.mk rfl) _ _ ?_ | exact OrV.t (Tru.mk rfl) | refine' ChV.t (Tru.mk rfl) _ _ _ ?_ ?_ | exact ChV.f (Tru.mk rfl) | refine' IteV.t (Tru.mk rfl) ?_ | refine' IteV.f (Tru.mk rfl) ?_ | refine' IteS.t (Tru.mk rfl) ?_ | refine' IteS.f (Tru.mk rfl) ?_ | exact s_nil | exact s_raise | refine' s_ret ?_ | refine' s_asg ?_ rfl ?_ | refine' s_asg ?_ ?_ ?_ | (show VI.bindT _ _ _ = some _; rfl) | refine' s_par ?_ ?_ ?_ | refine' s_expr ?_ ?_ | refine' s_ite ?_ ?_ | refine' s_app ?_ ?_ ?_ ?_ | refine' q_nil ?_ | refine' q_ret ?_ | exact q_raise | refine' q_asg ?_ rfl ?_ | refine' q_asg ?_ ?_ ?_ | refine' q_par ?_ ?_ ?_ | refine' q_expr ?_ ?_ | refine' q_ite ?_ | exact o_add | exact o_sub | refine' o_mul ?_ | refine' o_fdiv ?_ | refine' o_mod ?_ | exact o_neg | exact o_abs | exact o_int | exact o_gcd | exact o_lenT | exact o_lenL | exact o_eqI | exact o_ltI | exact o_leI | exact o_gtI | exact o_geI | exact o_neI | (show VI.setParts _ _ _ = some _; rfl) | (show VI.isSeq _ = some _; rfl) | exact Bop.mk rfl | exact Cop.mk rfl | exact Bin.mk rfl | exact Ngd.mk rfl | exact Isd.mk rfl | exact Idx.mk rfl | exact Ctd.mk rfl | exact Jnd.mk rfl)
      · repeat' (first | exact v_con | exact v_nil | refine' v_var ?_ | exact Get.mk rfl | refine' v_cons ?_ ?_ | refine' v_tup ?_ | refine' v_lst ?_ | refine' v_neg ?_ ?_ | refine' v_not ?_ ?_ | refine' v_bin ?_ ?_ ?_ | refine' v_cmp ?_ ?_ ?_ | refine' v_and ?_ ?_ | refine' v_or ?_ ?_ | refine' v_ite ?_ ?_ | refine' v_chain ?_ ?_ ?_ ?_ | refine' v_bi ?_ ?_ | refine' v_idx ?_ ?_ ?_ | refine' v_isi ?_ ?_ | refine' v_slLo ?_ ?_ ?_ | refine' v_slHi ?_ ?_ ?_ | refine' v_slBo ?_ ?_ ?_ ?_ | refine' v_mjoin ?_ ?_ ?_ | refine' v_call ?_ ?_ | refine' v_callv ?_ ?_ ?_ ?_ | refine' v_err ?_ ?_ | exact Tru.mk rfl | refine' AndV.t (Tru.mk rfl) _ _ ?_ | exact AndV.f (Tru.mk rfl) | refine' OrV.f (Tru.mk rfl) _ _ ?_ | exact OrV.t (Tru.mk rfl) | refine' ChV.t (Tru.mk rfl) _ _ _ ?_ ?_ | exact ChV.f (Tru.mk rfl) | refine' IteV.t (Tru.mk rfl) ?_ | refine' IteV.f (Tru.mk rfl) ?_ | refine' IteS.t (Tru.mk rfl) ?_ | refine' IteS.f (Tru.mk rfl) ?_ | exact s_nil | exact s_raise | refine' s_ret ?_ | refine' s_asg ?_ rfl ?_ | refine' s_asg ?_ ?_ ?_ | (show VI.bindT _ _ _ = some _; rfl) | refine' s_par ?_ ?_ ?_ | refine' s_expr ?_ ?_ | refine' s_ite ?_ ?_ | refine' s_app ?_ ?_ ?_ ?_ | refine' q_nil ?_ | refine' q_ret ?_ | exact q_raise | refine' q_asg ?_ rfl ?_ | refine' q_asg ?_ ?_ ?_ | refine' q_par ?_ ?_ ?_ | refine' q_expr ?_ ?_ | refine' q_ite ?_ | exact o_add | exact o_sub | refine' o_mul ?_ | refine' o_fdiv ?_ | refine' o_mod ?_ | exact o_neg | exact o_abs | exact o_int | exact o_gcd | exact o_lenT | exact o_lenL | exact o_eqI | exact o_ltI | exact o_leI | exact o_gtI | exact o_geI | exact o_neI | (show VI.setParts _ _ _ = some _; rfl) | (show VI.isSeq _ = some _; rfl) | exact Bop.mk rfl | exact Cop.mk rfl | exact Bin.mk rfl | exact Ngd.mk rfl | exact Isd.mk rfl | exact Idx.mk rfl | exact Ctd.mk rfl | exact Jnd.mk rfl)
  repeat' (first | exact t _ | exact c1 | exact alls _ | exact c2 | exact v_con | exact v_nil | refine' v_var ?_ | exact Get.mk rfl | refine' v_cons ?_ ?_ | refine' v_tup ?_ | refine' v_lst ?_ | refine' v_neg ?_ ?_ | refine' v_not ?_ ?_ | refine' v_bin ?_ ?_ ?_ | refine' v_cmp ?_ ?_ ?_ | refine' v_and ?_ ?_ | refine' v_or ?_ ?_ | refine' v_ite ?_ ?_ | refine' v_chain ?_ ?_ ?_ ?_ | refine' v_bi ?_ ?_ | refine' v_idx ?_ ?_ ?_ | refine' v_isi ?_ ?_ | refine' v_slLo ?_ ?_ ?_ | refine' v_slHi ?_ ?_ ?_ | refine' v_slBo ?_ ?_ ?_ ?_ | refine' v_mjoin ?_ ?_ ?_ | refine' v_call ?_ ?_ | refine' v_callv ?_ ?_ ?_ ?_ | refine' v_err ?_ ?_ | exact Tru.mk rfl | refine' AndV.t (Tru.mk rfl) _ _ ?_ | exact AndV.f (Tru.mk rfl) | refine' OrV.f (Tru.mk rfl) _ _ ?_ | exact OrV.t (Tru.mk rfl) | refine' ChV.t (Tru.mk rfl) _ _ _ ?_ ?_ | exact ChV.f (Tru.mk rfl) | refine' IteV.t (Tru.mk rfl) ?_ | refine' IteV.f (Tru.mk rfl) ?_ | refine' IteS.t (Tru.mk rfl) ?_ | refine' IteS.f (Tru.mk rfl) ?_ | exact s_nil | exact s_raise | refine' s_ret ?_ | refine' s_asg ?_ rfl ?_ | refine' s_asg ?_ ?_ ?_ | (show VI.bindT _ _ _ = some _; rfl) | refine' s_par ?_ ?_ ?_ | refine' s_expr ?_ ?_ | refine' s_ite ?_ ?_ | refine' s_app ?_ ?_ ?_ ?_ | refine' q_nil ?_ | refine' q_ret ?_ | exact q_raise | refine' q_asg ?_ rfl ?_ | refine' q_asg ?_ ?_ ?_ | refine' q_par ?_ ?_ ?_ | refine' q_expr ?_ ?_ | refine' q_ite ?_ | exact o_add | exact o_sub | refine' o_mul ?_ | refine' o_fdiv ?_ | refine' o_mod ?_ | exact o_neg | exact o_abs | exact o_int | exact o_gcd | exact o_lenT | exact o_lenL | exact o_eqI | exact o_ltI | exact o_leI | exact o_gtI | exact o_geI | exact o_neI | (show VI.setParts _ _ _ = some _; rfl) | (show VI.isSeq _ = some _; rfl) | exact Bop.mk rfl | exact Cop.mk rfl | exact Bin.mk rfl | exact Ngd.mk rfl | exact Isd.mk rfl | exact Idx.mk rfl | exact Ctd.mk rfl | exact Jnd.mk rfl)
theorem needC {k : Nat} {c : List Rat} {w : List D} (h : Chs c) (h1 : 1 ≤ c.length) (hl : c.length ≤ 40) : Cl (VI.run PR (k + 4)) 9 [dL c] w (.ok .non w) := by
  refine r_nx rfl rfl rfl (env' := [some (dL c)]) ?_
  have j := fun w => judge_ok (k := k) (w := w) h h1 hl
  repeat' (first | exact j _ | exact v_con | exact v_nil | refine' v_var ?_ | exact Get.mk rfl | refine' v_cons ?_ ?_ | refine' v_tup ?_ | refine' v_lst ?_ | refine' v_neg ?_ ?_ | refine' v_not ?_ ?_ | refine' v_bin ?_ ?_ ?_ | refine' v_cmp ?_ ?_ ?_ | refine' v_and ?_ ?_ | refine' v_or ?_ ?_ | refine' v_ite ?_ ?_ | refine' v_chain ?_ ?_ ?_ ?_ | refine' v_bi ?_ ?_ | refine' v_idx ?_ ?_ ?_ | refine' v_isi ?_ ?_ | refine' v_slLo ?_ ?_ ?_ | refine' v_slHi ?_ ?_ ?_ | refine' v_slBo ?_ ?_ ?_ ?_ | refine' v_mjoin ?_ ?_ ?_ | refine' v_call ?_ ?_ | refine' v_callv ?_ ?_ ?_ ?_ | refine' v_err ?_ ?_ | exact Tru.mk rfl | refine' AndV.t (Tru.mk rfl) _ _ ?_ | exact AndV.f (Tru.mk rfl) | refine' OrV.f (Tru.mk rfl) _ _ ?_ | exact OrV.t (Tru.mk rfl) | refine' ChV.t (Tru.mk rfl) _ _ _ ?_ ?_ | exact ChV.f (Tru.mk rfl) | refine' IteV.t (Tru.mk rfl) ?_ | refine' IteV.f (Tru.mk rfl) ?_ | refine' IteS.t (Tru.mk rfl) ?_ | refine' IteS.f (Tru.mk rfl) ?_ | exact s_nil | exact s_raise | refine' s_ret ?_ | refine' s_asg ?_ rfl ?_ | refine' s_asg ?_ ?_ ?_ | (show VI.bindT _ _ _ = some _; rfl) | refine' s_par ?_ ?_ ?_ | refine' s_expr ?_ ?_ | refine' s_ite ?_ ?_ | refine' s_app ?_ ?_ ?_ ?_ | refine' q_nil ?_ | refine' q_ret ?_ | exact q_raise | refine' q_asg ?_ rfl ?_ | refine' q_asg ?_ ?_ ?_ | refine' q_par ?_ ?_ ?_ | refine' q_expr ?_ ?_ | refine' q_ite ?_ | exact o_add | exact o_sub | refine' o_mul ?_ | refine' o_fdiv ?_ | refine' o_mod ?_ | exact o_neg | exact o_abs | exact o_int | exact o_gcd | exact o_lenT | exact o_lenL | exact o_eqI | exact o_ltI | exact o_leI | exact o_gtI | exact o_geI | exact o_neI | (show VI.setParts _ _ _ = some _; rfl) | (show VI.isSeq _ = some _; rfl) | exact Bop.mk rfl | exact Cop.mk rfl | exact Bin.mk rfl | exact Ngd.mk rfl | exact Isd.mk rfl | exact Idx.mk rfl | exact Ctd.mk rfl | exact Jnd.mk rfl)
theorem len_L {c : List Rat} : Bin .len [dL c] (dN c.length) := ⟨by
  show some (D.int ((c.map dQ).length : Nat)) = _
  rw [List.length_map]⟩
theorem needI {k s : Nat} {c : List Rat} {w : List D} (h : Chs c) (hs : s < c.length) (hl : c.length ≤ 40) : Cl (VI.run PR (k + 5)) 13 [dL c, dN s] w (.ok .non w) := by
  refine r_nx rfl rfl rfl (env' := [some (dL c), some (dN s)]) ?_
  have j := fun w => needC (k := k) (w := w) h (by omega) hl
  have g := fun w => needW (k := k + 2) (w := w) (v := (s : Int)) (lo := 0) (hi := (c.length : Int) - 1) (by omega) (by omega)
  repeat' (first | exact j _ | exact len_L | exact g _ | exact v_con | exact v_nil | refine' v_var ?_ | exact Get.mk rfl | refine' v_cons ?_ ?_ | refine' v_tup ?_ | refine' v_lst ?_ | refine' v_neg ?_ ?_ | refine' v_not ?_ ?_ | refine' v_bin ?_ ?_ ?_ | refine' v_cmp ?_ ?_ ?_ | refine' v_and ?_ ?_ | refine' v_or ?_ ?_ | refine' v_ite ?_ ?_ | refine' v_chain ?_ ?_ ?_ ?_ | refine' v_bi ?_ ?_ | refine' v_idx ?_ ?_ ?_ | refine' v_isi ?_ ?_ | refine' v_slLo ?_ ?_ ?_ | refine' v_slHi ?_ ?_ ?_ | refine' v_slBo ?_ ?_ ?_ ?_ | refine' v_mjoin ?_ ?_ ?_ | refine' v_call ?_ ?_ | refine' v_callv ?_ ?_ ?_ ?_ | refine' v_err ?_ ?_ | exact Tru.mk rfl | refine' AndV.t (Tru.mk rfl) _ _ ?_ | exact AndV.f (Tru.mk rfl) | refine' OrV.f (Tru.mk rfl) _ _ ?_ | exact OrV.t (Tru.mk rfl) | refine' ChV.t (Tru.mk rfl) _ _ _ ?_ ?_ | exact ChV.f (Tru.mk rfl) | refine' IteV.t (Tru.mk rfl) ?_ | refine' IteV.f (Tru.mk rfl) ?_ | refine' IteS.t (Tru.mk rfl) ?_ | refine' IteS.f (Tru.mk rfl) ?_ | exact s_nil | exact s_raise | refine' s_ret ?_ | refine' s_asg ?_ rfl ?_ | refine' s_asg ?_ ?_ ?_ | (show VI.bindT _ _ _ = some _; rfl) | refine' s_par ?_ ?_ ?_ | refine' s_expr ?_ ?_ | refine' s_ite ?_ ?_ | refine' s_app ?_ ?_ ?_ ?_ | refine' q_nil ?_ | refine' q_ret ?_ | exact q_raise | refine' q_asg ?_ rfl ?_ | refine' q_asg ?_ ?_ ?_ | refine' q_par ?_ ?_ ?_ | refine' q_expr ?_ ?_ | refine' q_ite ?_ | exact o_add | exact o_sub | refine' o_mul ?_ | refine' o_fdiv ?_ | refine' o_mod ?_ | exact o_neg | exact o_abs | exact o_int | exact o_gcd | exact o_lenT | exact o_lenL | exact o_eqI | exact o_ltI | exact o_leI | exact o_gtI | exact o_geI | exact o_neI | (show VI.setParts _ _ _ = some _; rfl) | (show VI.isSeq _ = some _; rfl) | exact Bop.mk rfl | exact Cop.mk rfl | exact Bin.mk rfl | exact Ngd.mk rfl | exact Isd.mk rfl | exact Idx.mk rfl | exact Ctd.mk rfl | exact Jnd.mk rfl)
end K28
end
section
set_option maxRecDepth 100000
set_option maxHeartbeats 4000000
namespace K28
open PySem VI VI.Q
theorem st_at : ∀ {c : List Rat} {s : Nat}, s < c.length → (stQ c)[s]? = some (ownQ (c.drop s))
  | p :: l, 0, _ => rfl
  | p :: l, s + 1, h => by
    show (stQ l)[s]? = some (ownQ (l.drop s))
    exact st_at (by rw [List.length_cons] at h; omega)
theorem start_cl {k s : Nat} {c : List Rat} {w : List D} (h : Chs c) (hs : s < c.length) (hl : c.length ≤ 40) : Cl (VI.run PR (k + 6)) 14 [dL c, dN s] w (.ok (dQ (ownQ (c.drop s))) w) := by
  refine r_ret rfl rfl rfl ?_
  have g := fun w => needI (k := k) (w := w) h hs hl
  have q := fun w => starts_cl (k := k + 1) (w := w) h hl
  have ix : ∀ w, Idx (.lst ((stQ c).map dQ)) (dN s) w (.ok (dQ (ownQ (c.drop s))) w) := fun w => i_lst (j := s) (by rw [List.getElem?_map, st_at hs]; rfl) rfl
  repeat' (first | exact g _ | exact q _ | exact ix _ | exact v_con | exact v_nil | refine' v_var ?_ | exact Get.mk rfl | refine' v_cons ?_ ?_ | refine' v_tup ?_ | refine' v_lst ?_ | refine' v_neg ?_ ?_ | refine' v_not ?_ ?_ | refine' v_bin ?_ ?_ ?_ | refine' v_cmp ?_ ?_ ?_ | refine' v_and ?_ ?_ | refine' v_or ?_ ?_ | refine' v_ite ?_ ?_ | refine' v_chain ?_ ?_ ?_ ?_ | refine' v_bi ?_ ?_ | refine' v_idx ?_ ?_ ?_ | refine' v_isi ?_ ?_ | refine' v_slLo ?_ ?_ ?_ | refine' v_slHi ?_ ?_ ?_ | refine' v_slBo ?_ ?_ ?_ ?_ | refine' v_mjoin ?_ ?_ ?_ | refine' v_call ?_ ?_ | refine' v_callv ?_ ?_ ?_ ?_ | refine' v_err ?_ ?_ | exact Tru.mk rfl | refine' AndV.t (Tru.mk rfl) _ _ ?_ | exact AndV.f (Tru.mk rfl) | refine' OrV.f (Tru.mk rfl) _ _ ?_ | exact OrV.t (Tru.mk rfl) | refine' ChV.t (Tru.mk rfl) _ _ _ ?_ ?_ | exact ChV.f (Tru.mk rfl) | refine' IteV.t (Tru.mk rfl) ?_ | refine' IteV.f (Tru.mk rfl) ?_ | refine' IteS.t (Tru.mk rfl) ?_ | refine' IteS.f (Tru.mk rfl) ?_ | exact s_nil | exact s_raise | refine' s_ret ?_ | refine' s_asg ?_ rfl ?_ | refine' s_asg ?_ ?_ ?_ | (show VI.bindT _ _ _ = some _; rfl) | refine' s_par ?_ ?_ ?_ | refine' s_expr ?_ ?_ | refine' s_ite ?_ ?_ | refine' s_app ?_ ?_ ?_ ?_ | refine' q_nil ?_ | refine' q_ret ?_ | exact q_raise | refine' q_asg ?_ rfl ?_ | refine' q_asg ?_ ?_ ?_ | refine' q_par ?_ ?_ ?_ | refine' q_expr ?_ ?_ | refine' q_ite ?_ | exact o_add | exact o_sub | refine' o_mul ?_ | refine' o_fdiv ?_ | refine' o_mod ?_ | exact o_neg | exact o_abs | exact o_int | exact o_gcd | exact o_lenT | exact o_lenL | exact o_eqI | exact o_ltI | exact o_leI | exact o_gtI | exact o_geI | exact o_neI | (show VI.setParts _ _ _ = some _; rfl) | (show VI.isSeq _ = some _; rfl) | exact Bop.mk rfl | exact Cop.mk rfl | exact Bin.mk rfl | exact Ngd.mk rfl | exact Isd.mk rfl | exact Idx.mk rfl | exact Ctd.mk rfl | exact Jnd.mk rfl)
theorem greatest_cl {k : Nat} {c : List Rat} {w : List D} (h : Chs c) (h1 : 1 ≤ c.length) (hl : c.length ≤ 40) : Cl (VI.run PR (k + 6)) 15 [dL c] w (.ok (dQ (bestQ c)) w) := by
  refine r_ret rfl rfl rfl ?_
  have g := fun w => needC (k := k + 1) (w := w) h h1 hl
  have q := fun w => best_cl (k := k) (w := w) h hl
  repeat' (first | exact g _ | exact q _ | exact v_con | exact v_nil | refine' v_var ?_ | exact Get.mk rfl | refine' v_cons ?_ ?_ | refine' v_tup ?_ | refine' v_lst ?_ | refine' v_neg ?_ ?_ | refine' v_not ?_ ?_ | refine' v_bin ?_ ?_ ?_ | refine' v_cmp ?_ ?_ ?_ | refine' v_and ?_ ?_ | refine' v_or ?_ ?_ | refine' v_ite ?_ ?_ | refine' v_chain ?_ ?_ ?_ ?_ | refine' v_bi ?_ ?_ | refine' v_idx ?_ ?_ ?_ | refine' v_isi ?_ ?_ | refine' v_slLo ?_ ?_ ?_ | refine' v_slHi ?_ ?_ ?_ | refine' v_slBo ?_ ?_ ?_ ?_ | refine' v_mjoin ?_ ?_ ?_ | refine' v_call ?_ ?_ | refine' v_callv ?_ ?_ ?_ ?_ | refine' v_err ?_ ?_ | exact Tru.mk rfl | refine' AndV.t (Tru.mk rfl) _ _ ?_ | exact AndV.f (Tru.mk rfl) | refine' OrV.f (Tru.mk rfl) _ _ ?_ | exact OrV.t (Tru.mk rfl) | refine' ChV.t (Tru.mk rfl) _ _ _ ?_ ?_ | exact ChV.f (Tru.mk rfl) | refine' IteV.t (Tru.mk rfl) ?_ | refine' IteV.f (Tru.mk rfl) ?_ | refine' IteS.t (Tru.mk rfl) ?_ | refine' IteS.f (Tru.mk rfl) ?_ | exact s_nil | exact s_raise | refine' s_ret ?_ | refine' s_asg ?_ rfl ?_ | refine' s_asg ?_ ?_ ?_ | (show VI.bindT _ _ _ = some _; rfl) | refine' s_par ?_ ?_ ?_ | refine' s_expr ?_ ?_ | refine' s_ite ?_ ?_ | refine' s_app ?_ ?_ ?_ ?_ | refine' q_nil ?_ | refine' q_ret ?_ | exact q_raise | refine' q_asg ?_ rfl ?_ | refine' q_asg ?_ ?_ ?_ | refine' q_par ?_ ?_ ?_ | refine' q_expr ?_ ?_ | refine' q_ite ?_ | exact o_add | exact o_sub | refine' o_mul ?_ | refine' o_fdiv ?_ | refine' o_mod ?_ | exact o_neg | exact o_abs | exact o_int | exact o_gcd | exact o_lenT | exact o_lenL | exact o_eqI | exact o_ltI | exact o_leI | exact o_gtI | exact o_geI | exact o_neI | (show VI.setParts _ _ _ = some _; rfl) | (show VI.isSeq _ = some _; rfl) | exact Bop.mk rfl | exact Cop.mk rfl | exact Bin.mk rfl | exact Ngd.mk rfl | exact Isd.mk rfl | exact Idx.mk rfl | exact Ctd.mk rfl | exact Jnd.mk rfl)
theorem from_cl {k s : Nat} {c : List Rat} {w : List D} (h : Chs c) (hs : s < c.length) (hl : c.length ≤ 40) : Cl (VI.run PR (k + 6)) 18 [dL c, dN s] w (.ok (oD (oddQ 0 (c.drop s))) w) := by
  refine r_ret rfl rfl rfl ?_
  have g := fun w => needI (k := k) (w := w) h hs hl
  have q := fun w => odds_cl (k := k + 1) (w := w) h hl (s := s) (by omega)
  repeat' (first | exact g _ | exact q _ | exact v_con | exact v_nil | refine' v_var ?_ | exact Get.mk rfl | refine' v_cons ?_ ?_ | refine' v_tup ?_ | refine' v_lst ?_ | refine' v_neg ?_ ?_ | refine' v_not ?_ ?_ | refine' v_bin ?_ ?_ ?_ | refine' v_cmp ?_ ?_ ?_ | refine' v_and ?_ ?_ | refine' v_or ?_ ?_ | refine' v_ite ?_ ?_ | refine' v_chain ?_ ?_ ?_ ?_ | refine' v_bi ?_ ?_ | refine' v_idx ?_ ?_ ?_ | refine' v_isi ?_ ?_ | refine' v_slLo ?_ ?_ ?_ | refine' v_slHi ?_ ?_ ?_ | refine' v_slBo ?_ ?_ ?_ ?_ | refine' v_mjoin ?_ ?_ ?_ | refine' v_call ?_ ?_ | refine' v_callv ?_ ?_ ?_ ?_ | refine' v_err ?_ ?_ | exact Tru.mk rfl | refine' AndV.t (Tru.mk rfl) _ _ ?_ | exact AndV.f (Tru.mk rfl) | refine' OrV.f (Tru.mk rfl) _ _ ?_ | exact OrV.t (Tru.mk rfl) | refine' ChV.t (Tru.mk rfl) _ _ _ ?_ ?_ | exact ChV.f (Tru.mk rfl) | refine' IteV.t (Tru.mk rfl) ?_ | refine' IteV.f (Tru.mk rfl) ?_ | refine' IteS.t (Tru.mk rfl) ?_ | refine' IteS.f (Tru.mk rfl) ?_ | exact s_nil | exact s_raise | refine' s_ret ?_ | refine' s_asg ?_ rfl ?_ | refine' s_asg ?_ ?_ ?_ | (show VI.bindT _ _ _ = some _; rfl) | refine' s_par ?_ ?_ ?_ | refine' s_expr ?_ ?_ | refine' s_ite ?_ ?_ | refine' s_app ?_ ?_ ?_ ?_ | refine' q_nil ?_ | refine' q_ret ?_ | exact q_raise | refine' q_asg ?_ rfl ?_ | refine' q_asg ?_ ?_ ?_ | refine' q_par ?_ ?_ ?_ | refine' q_expr ?_ ?_ | refine' q_ite ?_ | exact o_add | exact o_sub | refine' o_mul ?_ | refine' o_fdiv ?_ | refine' o_mod ?_ | exact o_neg | exact o_abs | exact o_int | exact o_gcd | exact o_lenT | exact o_lenL | exact o_eqI | exact o_ltI | exact o_leI | exact o_gtI | exact o_geI | exact o_neI | (show VI.setParts _ _ _ = some _; rfl) | (show VI.isSeq _ = some _; rfl) | exact Bop.mk rfl | exact Cop.mk rfl | exact Bin.mk rfl | exact Ngd.mk rfl | exact Isd.mk rfl | exact Idx.mk rfl | exact Ctd.mk rfl | exact Jnd.mk rfl)
/-! ### starts that are able -/
def abl (c : List Rat) (s : Nat) : Bool := match oddQ 0 (c.drop s) with
  | none => true
  | some r => decide (1 ≤ r)
def ableL (c : List Rat) : List Nat := (List.range c.length).filter (abl c)
def firstQ (c : List Rat) : Nat := ((ableL c)[(ableL c).length - 1]?).getD 0
theorem ge_iff (r : Rat) : (r.den : Int) ≤ r.num ↔ 1 ≤ r := by
  have e := num_eq r
  have dp : (0 : Rat) < (r.den : Rat) := Rat.natCast_pos.mpr r.den_pos
  rw [← Rat.intCast_le_intCast, Rat.intCast_natCast, e]
  constructor
  · intro h
    have h : 1 * (r.den : Rat) ≤ r * (r.den : Rat) := by rw [Rat.one_mul]; exact h
    exact Rat.le_of_mul_le_mul_right h dp
  · intro h
    have := Rat.mul_le_mul_of_nonneg_right h (Rat.le_of_lt dp)
    rw [Rat.one_mul] at this
    exact this
theorem enum_map {f : Nat → D} (m : Nat) : (((List.range m).map f).zipIdx).map (fun p => D.tup [.int (p.2 : Nat), p.1]) = (List.range m).map fun s => .tup [dN s, f s] := by
  refine List.ext_getElem (by simp) ?_
  intro i h1 h2
  simp
theorem comp_e {c : D → M Bool} {f : D → M D} {w : List D} {p : Nat → Bool} {g : Nat → D} : ∀ (l : List Nat), (∀ i ∈ l, c (.tup [dN i, g i]) w = .ok (p i) w) → (∀ i ∈ l, f (.tup [dN i, g i]) w = .ok (dN i) w) → compIfL c f (l.map fun i => .tup [dN i, g i]) w = .ok ((l.filter p).map dN) w
  | [], _, _ => rfl
  | i :: l, hc, hf => by
    have ih := comp_e l (fun j hj => hc j (List.mem_cons_of_mem _ hj)) fun j hj => hf j (List.mem_cons_of_mem _ hj)
    have h1 := hc i List.mem_cons_self
    show M.bind (c (.tup [dN i, g i])) (fun b => if b then M.bind (f (.tup [dN i, g i])) fun y => M.bind (compIfL c f (l.map fun i => .tup [dN i, g i])) fun ys => M.pure (y :: ys) else compIfL c f (l.map fun i => .tup [dN i, g i])) w = _
    refine bind_ok' h1 ?_
    cases hp : p i with
    | true =>
      rw [if_pos rfl, List.filter_cons_of_pos hp]
      exact bind_ok' (hf i List.mem_cons_self) (bind_ok' ih rfl)
    | false =>
      rw [if_neg (by decide), List.filter_cons_of_neg (by rw [hp]; decide)]
      exact ih
theorem compL_n {f : D → M D} {w : List D} {g : Nat → D} : ∀ (l : List Nat), (∀ i ∈ l, f (dN i) w = .ok (g i) w) → compL f (l.map dN) w = .ok (l.map g) w
  | [], _ => rfl
  | i :: l, h => bind_ok' (h i List.mem_cons_self) (bind_ok' (compL_n l fun j hj => h j (List.mem_cons_of_mem _ hj)) rfl)
theorem ne_L (l : List Nat) : Cop .ne (.lst (l.map dN)) (.lst []) (!l.isEmpty) := ⟨by
  show (eqD _ _).map (!·) = _
  rw [eq_empty (n := 8) (by decide) (by rw [List.all_map]; exact List.all_eq_true.mpr fun _ _ => rfl), List.isEmpty_map]
  rfl⟩
theorem last_at {l : List Nat} {w : List D} (h : l ≠ []) : Idx (.lst (l.map dN)) (.int (-1)) w (.ok (dN ((l[l.length - 1]?).getD 0)) w) := ⟨by
  have hp : 0 < l.length := List.length_pos_iff.mpr h
  refine lift_ok (o := idxD (.lst (l.map dN)) (.int (-1))) ?_
  show ((ixN (l.map dN).length (-1)).bind fun j => (l.map dN)[j]?) = _
  have e : ixN (l.map dN).length (-1) = some (l.length - 1) := by
    unfold ixN
    rw [List.length_map, if_neg (by omega), if_pos (by omega)]
    congr 1
    omega
  rw [e]
  show (l.map dN)[l.length - 1]? = _
  rw [List.getElem?_map, List.getElem?_eq_getElem (by omega)]
  rfl⟩
theorem first_cl {k : Nat} {c : List Rat} {w : List D} (h : Chs c) (h1 : 1 ≤ c.length) (hl : c.length ≤ 40) : Cl (VI.run PR (k + 5)) 16 [dL c] w (.ok (dN (firstQ c)) w) := by
  refine r_ret rfl rfl rfl ?_
  have g := fun w => needC (k := k) (w := w) h h1 hl
  have c1 : ∀ w, Ev (VI.run PR (k + 4)) (etOf PR) ar (.comp (.call 11 (.cons (.var 0) (.cons (.var 3) .nil))) (.nm 3) (.bi .range (.cons (.bi .len (.cons (.var 0) .nil)) .nil))) [some (dL c), none, none, none, none] w (.ok (.lst ((List.range c.length).map fun s => oD (oddQ 0 (c.drop s)))) w) := fun w => by
    refine B.v_comp (s := .lst ((List.range c.length).map dN)) (w1 := w) ?_ rfl (by rw [List.length_map, List.length_range]; unfold line; omega) (compL_n (List.range c.length) fun i hi => ?_)
    · repeat' (first | exact len_L | exact range_up (by omega) | exact v_con | exact v_nil | refine' v_var ?_ | exact Get.mk rfl | refine' v_cons ?_ ?_ | refine' v_tup ?_ | refine' v_lst ?_ | refine' v_neg ?_ ?_ | refine' v_not ?_ ?_ | refine' v_bin ?_ ?_ ?_ | refine' v_cmp ?_ ?_ ?_ | refine' v_and ?_ ?_ | refine' v_or ?_ ?_ | refine' v_ite ?_ ?_ | refine' v_chain ?_ ?_ ?_ ?_ | refine' v_bi ?_ ?_ | refine' v_idx ?_ ?_ ?_ | refine' v_isi ?_ ?_ | refine' v_slLo ?_ ?_ ?_ | refine' v_slHi ?_ ?_ ?_ | refine' v_slBo ?_ ?_ ?_ ?_ | refine' v_mjoin ?_ ?_ ?_ | refine' v_call ?_ ?_ | refine' v_callv ?_ ?_ ?_ ?_ | refine' v_err ?_ ?_ | exact Tru.mk rfl | refine' AndV.t (Tru.mk rfl) _ _ ?_ | exact AndV.f (Tru.mk rfl) | refine' OrV.f (Tru.mk rfl) _ _ ?_ | exact OrV.t (Tru.mk rfl) | refine' ChV.t (Tru.mk rfl) _ _ _ ?_ ?_ | exact ChV.f (Tru.mk rfl) | refine' IteV.t (Tru.mk rfl) ?_ | refine' IteV.f (Tru.mk rfl) ?_ | refine' IteS.t (Tru.mk rfl) ?_ | refine' IteS.f (Tru.mk rfl) ?_ | exact s_nil | exact s_raise | refine' s_ret ?_ | refine' s_asg ?_ rfl ?_ | refine' s_asg ?_ ?_ ?_ | (show VI.bindT _ _ _ = some _; rfl) | refine' s_par ?_ ?_ ?_ | refine' s_expr ?_ ?_ | refine' s_ite ?_ ?_ | refine' s_app ?_ ?_ ?_ ?_ | refine' q_nil ?_ | refine' q_ret ?_ | exact q_raise | refine' q_asg ?_ rfl ?_ | refine' q_asg ?_ ?_ ?_ | refine' q_par ?_ ?_ ?_ | refine' q_expr ?_ ?_ | refine' q_ite ?_ | exact o_add | exact o_sub | refine' o_mul ?_ | refine' o_fdiv ?_ | refine' o_mod ?_ | exact o_neg | exact o_abs | exact o_int | exact o_gcd | exact o_lenT | exact o_lenL | exact o_eqI | exact o_ltI | exact o_leI | exact o_gtI | exact o_geI | exact o_neI | (show VI.setParts _ _ _ = some _; rfl) | (show VI.isSeq _ = some _; rfl) | exact Bop.mk rfl | exact Cop.mk rfl | exact Bin.mk rfl | exact Ngd.mk rfl | exact Isd.mk rfl | exact Idx.mk rfl | exact Ctd.mk rfl | exact Jnd.mk rfl)
    · have hi := List.mem_range.mp hi
      have q := fun w => odds_cl (k := k) (w := w) h hl (s := i) (by omega)
      refine bind_ok' (w1 := w) (a := [some (dL c), none, none, some (dN i), none]) rfl (B.calm_ok (Ev.q ?_))
      repeat' (first | exact q _ | exact v_con | exact v_nil | refine' v_var ?_ | exact Get.mk rfl | refine' v_cons ?_ ?_ | refine' v_tup ?_ | refine' v_lst ?_ | refine' v_neg ?_ ?_ | refine' v_not ?_ ?_ | refine' v_bin ?_ ?_ ?_ | refine' v_cmp ?_ ?_ ?_ | refine' v_and ?_ ?_ | refine' v_or ?_ ?_ | refine' v_ite ?_ ?_ | refine' v_chain ?_ ?_ ?_ ?_ | refine' v_bi ?_ ?_ | refine' v_idx ?_ ?_ ?_ | refine' v_isi ?_ ?_ | refine' v_slLo ?_ ?_ ?_ | refine' v_slHi ?_ ?_ ?_ | refine' v_slBo ?_ ?_ ?_ ?_ | refine' v_mjoin ?_ ?_ ?_ | refine' v_call ?_ ?_ | refine' v_callv ?_ ?_ ?_ ?_ | refine' v_err ?_ ?_ | exact Tru.mk rfl | refine' AndV.t (Tru.mk rfl) _ _ ?_ | exact AndV.f (Tru.mk rfl) | refine' OrV.f (Tru.mk rfl) _ _ ?_ | exact OrV.t (Tru.mk rfl) | refine' ChV.t (Tru.mk rfl) _ _ _ ?_ ?_ | exact ChV.f (Tru.mk rfl) | refine' IteV.t (Tru.mk rfl) ?_ | refine' IteV.f (Tru.mk rfl) ?_ | refine' IteS.t (Tru.mk rfl) ?_ | refine' IteS.f (Tru.mk rfl) ?_ | exact s_nil | exact s_raise | refine' s_ret ?_ | refine' s_asg ?_ rfl ?_ | refine' s_asg ?_ ?_ ?_ | (show VI.bindT _ _ _ = some _; rfl) | refine' s_par ?_ ?_ ?_ | refine' s_expr ?_ ?_ | refine' s_ite ?_ ?_ | refine' s_app ?_ ?_ ?_ ?_ | refine' q_nil ?_ | refine' q_ret ?_ | exact q_raise | refine' q_asg ?_ rfl ?_ | refine' q_asg ?_ ?_ ?_ | refine' q_par ?_ ?_ ?_ | refine' q_expr ?_ ?_ | refine' q_ite ?_ | exact o_add | exact o_sub | refine' o_mul ?_ | refine' o_fdiv ?_ | refine' o_mod ?_ | exact o_neg | exact o_abs | exact o_int | exact o_gcd | exact o_lenT | exact o_lenL | exact o_eqI | exact o_ltI | exact o_leI | exact o_gtI | exact o_geI | exact o_neI | (show VI.setParts _ _ _ = some _; rfl) | (show VI.isSeq _ = some _; rfl) | exact Bop.mk rfl | exact Cop.mk rfl | exact Bin.mk rfl | exact Ngd.mk rfl | exact Isd.mk rfl | exact Idx.mk rfl | exact Ctd.mk rfl | exact Jnd.mk rfl)
  have en : Bin .enum [.lst ((List.range c.length).map fun s => oD (oddQ 0 (c.drop s)))] (.lst ((List.range c.length).map fun s => .tup [dN s, oD (oddQ 0 (c.drop s))])) := ⟨by
    show some (D.lst _) = _
    rw [enum_map]⟩
  have c2 : ∀ w, Ev (VI.run PR (k + 4)) (etOf PR) ar (.compIf (.var 3) (.tp (.cons (.nm 3) (.cons (.nm 4) .nil))) (.bi .enum (.cons (.var 1) .nil)) (.or (.cmp .is (.var 4) (.con .non)) (.cmp .ge (.idx (.var 4) (.con (.int 0))) (.idx (.var 4) (.con (.int 1)))))) [some (dL c), some (.lst ((List.range c.length).map fun s => oD (oddQ 0 (c.drop s)))), none, none, none] w (.ok (.lst ((ableL c).map dN)) w) := fun w => by
    refine B.v_compIf (s := .lst ((List.range c.length).map fun s => D.tup [dN s, oD (oddQ 0 (c.drop s))])) (w1 := w) ?_ rfl (by rw [List.length_map, List.length_range]; unfold line; omega) (comp_e (p := abl c) (List.range c.length) (fun i hi => ?_) fun i hi => ?_)
    · repeat' (first | exact en | exact v_con | exact v_nil | refine' v_var ?_ | exact Get.mk rfl | refine' v_cons ?_ ?_ | refine' v_tup ?_ | refine' v_lst ?_ | refine' v_neg ?_ ?_ | refine' v_not ?_ ?_ | refine' v_bin ?_ ?_ ?_ | refine' v_cmp ?_ ?_ ?_ | refine' v_and ?_ ?_ | refine' v_or ?_ ?_ | refine' v_ite ?_ ?_ | refine' v_chain ?_ ?_ ?_ ?_ | refine' v_bi ?_ ?_ | refine' v_idx ?_ ?_ ?_ | refine' v_isi ?_ ?_ | refine' v_slLo ?_ ?_ ?_ | refine' v_slHi ?_ ?_ ?_ | refine' v_slBo ?_ ?_ ?_ ?_ | refine' v_mjoin ?_ ?_ ?_ | refine' v_call ?_ ?_ | refine' v_callv ?_ ?_ ?_ ?_ | refine' v_err ?_ ?_ | exact Tru.mk rfl | refine' AndV.t (Tru.mk rfl) _ _ ?_ | exact AndV.f (Tru.mk rfl) | refine' OrV.f (Tru.mk rfl) _ _ ?_ | exact OrV.t (Tru.mk rfl) | refine' ChV.t (Tru.mk rfl) _ _ _ ?_ ?_ | exact ChV.f (Tru.mk rfl) | refine' IteV.t (Tru.mk rfl) ?_ | refine' IteV.f (Tru.mk rfl) ?_ | refine' IteS.t (Tru.mk rfl) ?_ | refine' IteS.f (Tru.mk rfl) ?_ | exact s_nil | exact s_raise | refine' s_ret ?_ | refine' s_asg ?_ rfl ?_ | refine' s_asg ?_ ?_ ?_ | (show VI.bindT _ _ _ = some _; rfl) | refine' s_par ?_ ?_ ?_ | refine' s_expr ?_ ?_ | refine' s_ite ?_ ?_ | refine' s_app ?_ ?_ ?_ ?_ | refine' q_nil ?_ | refine' q_ret ?_ | exact q_raise | refine' q_asg ?_ rfl ?_ | refine' q_asg ?_ ?_ ?_ | refine' q_par ?_ ?_ ?_ | refine' q_expr ?_ ?_ | refine' q_ite ?_ | exact o_add | exact o_sub | refine' o_mul ?_ | refine' o_fdiv ?_ | refine' o_mod ?_ | exact o_neg | exact o_abs | exact o_int | exact o_gcd | exact o_lenT | exact o_lenL | exact o_eqI | exact o_ltI | exact o_leI | exact o_gtI | exact o_geI | exact o_neI | (show VI.setParts _ _ _ = some _; rfl) | (show VI.isSeq _ = some _; rfl) | exact Bop.mk rfl | exact Cop.mk rfl | exact Bin.mk rfl | exact Ngd.mk rfl | exact Isd.mk rfl | exact Idx.mk rfl | exact Ctd.mk rfl | exact Jnd.mk rfl)
    · refine bind_ok' (w1 := w) (a := [some (dL c), some (.lst ((List.range c.length).map fun s => oD (oddQ 0 (c.drop s)))), none, some (dN i), some (oD (oddQ 0 (c.drop i)))]) rfl (bind_ok' (a := .bl (abl c i)) (w1 := w) (B.calm_ok (Ev.q ?_)) rfl)
      unfold abl
      cases z : oddQ 0 (c.drop i) with
      | none =>
        show Ev _ _ _ _ [_, _, _, _, some .non] _ (.ok (.bl true) w)
        have ci : Cop .is .non .non true := ⟨rfl⟩
        repeat' (first | exact ci | exact v_con | exact v_nil | refine' v_var ?_ | exact Get.mk rfl | refine' v_cons ?_ ?_ | refine' v_tup ?_ | refine' v_lst ?_ | refine' v_neg ?_ ?_ | refine' v_not ?_ ?_ | refine' v_bin ?_ ?_ ?_ | refine' v_cmp ?_ ?_ ?_ | refine' v_and ?_ ?_ | refine' v_or ?_ ?_ | refine' v_ite ?_ ?_ | refine' v_chain ?_ ?_ ?_ ?_ | refine' v_bi ?_ ?_ | refine' v_idx ?_ ?_ ?_ | refine' v_isi ?_ ?_ | refine' v_slLo ?_ ?_ ?_ | refine' v_slHi ?_ ?_ ?_ | refine' v_slBo ?_ ?_ ?_ ?_ | refine' v_mjoin ?_ ?_ ?_ | refine' v_call ?_ ?_ | refine' v_callv ?_ ?_ ?_ ?_ | refine' v_err ?_ ?_ | exact Tru.mk rfl | refine' AndV.t (Tru.mk rfl) _ _ ?_ | exact AndV.f (Tru.mk rfl) | refine' OrV.f (Tru.mk rfl) _ _ ?_ | exact OrV.t (Tru.mk rfl) | refine' ChV.t (Tru.mk rfl) _ _ _ ?_ ?_ | exact ChV.f (Tru.mk rfl) | refine' IteV.t (Tru.mk rfl) ?_ | refine' IteV.f (Tru.mk rfl) ?_ | refine' IteS.t (Tru.mk rfl) ?_ | refine' IteS.f (Tru.mk rfl) ?_ | exact s_nil | exact s_raise | refine' s_ret ?_ | refine' s_asg ?_ rfl ?_ | refine' s_asg ?_ ?_ ?_ | (show VI.bindT _ _ _ = some _; rfl) | refine' s_par ?_ ?_ ?_ | refine' s_expr ?_ ?_ | refine' s_ite ?_ ?_ | refine' s_app ?_ ?_ ?_ ?_ | refine' q_nil ?_ | refine' q_ret ?_ | exact q_raise | refine' q_asg ?_ rfl ?_ | refine' q_asg ?_ ?_ ?_ | refine' q_par ?_ ?_ ?_ | refine' q_expr ?_ ?_ | refine' q_ite ?_ | exact o_add | exact o_sub | refine' o_mul ?_ | refine' o_fdiv ?_ | refine' o_mod ?_ | exact o_neg | exact o_abs | exact o_int | exact o_gcd | exact o_lenT | exact o_lenL | exact o_eqI | exact o_ltI | exact o_leI | exact o_gtI | exact o_geI | exact o_neI | (show VI.setParts _ _ _ = some _; rfl) | (show VI.isSeq _ = some _; rfl) | exact Bop.mk rfl | exact Cop.mk rfl | exact Bin.mk rfl | exact Ngd.mk rfl | exact Isd.mk rfl | exact Idx.mk rfl | exact Ctd.mk rfl | exact Jnd.mk rfl)
      | some r =>
        show Ev _ _ _ _ [_, _, _, _, some (dQ r)] _ (.ok (.bl (decide (1 ≤ r))) w)
        have ci : Cop .is (dQ r) .non false := ⟨rfl⟩
        have i0 : ∀ w, Idx (dQ r) (.int 0) w (.ok (.int r.num) w) := fun w => ⟨rfl⟩
        have i1 : ∀ w, Idx (dQ r) (.int 1) w (.ok (.int (r.den : Int)) w) := fun w => ⟨rfl⟩
        have cg : Cop .ge (.int r.num) (.int (r.den : Int)) (decide (1 ≤ r)) := ⟨congrArg some (decide_eq_decide.mpr (ge_iff r))⟩
        repeat' (first | exact ci | exact i0 _ | exact i1 _ | exact cg | exact v_con | exact v_nil | refine' v_var ?_ | exact Get.mk rfl | refine' v_cons ?_ ?_ | refine' v_tup ?_ | refine' v_lst ?_ | refine' v_neg ?_ ?_ | refine' v_not ?_ ?_ | refine' v_bin ?_ ?_ ?_ | refine' v_cmp ?_ ?_ ?_ | refine' v_and ?_ ?_ | refine' v_or ?_ ?_ | refine' v_ite ?_ ?_ | refine' v_chain ?_ ?_ ?_ ?_ | refine' v_bi ?_ ?_ | refine' v_idx ?_ ?_ ?_ | refine' v_isi ?_ ?_ | refine' v_slLo ?_ ?_ ?_ | refine' v_slHi ?_ ?_ ?_ | refine' v_slBo ?_ ?_ ?_ ?_ | refine' v_mjoin ?_ ?_ ?_ | refine' v_call ?_ ?_ | refine' v_callv ?_ ?_ ?_ ?_ | refine' v_err ?_ ?_ | exact Tru.mk rfl | refine' AndV.t (Tru.mk rfl) _ _ ?_ | exact AndV.f (Tru.mk rfl) | refine' OrV.f (Tru.mk rfl) _ _ ?_ | exact OrV.t (Tru.mk rfl) | refine' ChV.t (Tru.mk rfl) _ _ _ ?_ ?_ | exact ChV.f (Tru.mk rfl) | refine' IteV.t (Tru.mk rfl) ?_ | refine' IteV.f (Tru.mk rfl) ?_ | refine' IteS.t (Tru.mk rfl) ?_ | refine' IteS.f (Tru.mk rfl) ?_ | exact s_nil | exact s_raise | refine' s_ret ?_ | refine' s_asg ?_ rfl ?_ | refine' s_asg ?_ ?_ ?_ | (show VI.bindT _ _ _ = some _; rfl) | refine' s_par ?_ ?_ ?_ | refine' s_expr ?_ ?_ | refine' s_ite ?_ ?_ | refine' s_app ?_ ?_ ?_ ?_ | refine' q_nil ?_ | refine' q_ret ?_ | exact q_raise | refine' q_asg ?_ rfl ?_ | refine' q_asg ?_ ?_ ?_ | refine' q_par ?_ ?_ ?_ | refine' q_expr ?_ ?_ | refine' q_ite ?_ | exact o_add | exact o_sub | refine' o_mul ?_ | refine' o_fdiv ?_ | refine' o_mod ?_ | exact o_neg | exact o_abs | exact o_int | exact o_gcd | exact o_lenT | exact o_lenL | exact o_eqI | exact o_ltI | exact o_leI | exact o_gtI | exact o_geI | exact o_neI | (show VI.setParts _ _ _ = some _; rfl) | (show VI.isSeq _ = some _; rfl) | exact Bop.mk rfl | exact Cop.mk rfl | exact Bin.mk rfl | exact Ngd.mk rfl | exact Isd.mk rfl | exact Idx.mk rfl | exact Ctd.mk rfl | exact Jnd.mk rfl)
    · refine bind_ok' (w1 := w) (a := [some (dL c), some (.lst ((List.range c.length).map fun s => oD (oddQ 0 (c.drop s)))), none, some (dN i), some (oD (oddQ 0 (c.drop i)))]) rfl (B.calm_ok (Ev.q ?_))
      repeat' (first | exact v_con | exact v_nil | refine' v_var ?_ | exact Get.mk rfl | refine' v_cons ?_ ?_ | refine' v_tup ?_ | refine' v_lst ?_ | refine' v_neg ?_ ?_ | refine' v_not ?_ ?_ | refine' v_bin ?_ ?_ ?_ | refine' v_cmp ?_ ?_ ?_ | refine' v_and ?_ ?_ | refine' v_or ?_ ?_ | refine' v_ite ?_ ?_ | refine' v_chain ?_ ?_ ?_ ?_ | refine' v_bi ?_ ?_ | refine' v_idx ?_ ?_ ?_ | refine' v_isi ?_ ?_ | refine' v_slLo ?_ ?_ ?_ | refine' v_slHi ?_ ?_ ?_ | refine' v_slBo ?_ ?_ ?_ ?_ | refine' v_mjoin ?_ ?_ ?_ | refine' v_call ?_ ?_ | refine' v_callv ?_ ?_ ?_ ?_ | refine' v_err ?_ ?_ | exact Tru.mk rfl | refine' AndV.t (Tru.mk rfl) _ _ ?_ | exact AndV.f (Tru.mk rfl) | refine' OrV.f (Tru.mk rfl) _ _ ?_ | exact OrV.t (Tru.mk rfl) | refine' ChV.t (Tru.mk rfl) _ _ _ ?_ ?_ | exact ChV.f (Tru.mk rfl) | refine' IteV.t (Tru.mk rfl) ?_ | refine' IteV.f (Tru.mk rfl) ?_ | refine' IteS.t (Tru.mk rfl) ?_ | refine' IteS.f (Tru.mk rfl) ?_ | exact s_nil | exact s_raise | refine' s_ret ?_ | refine' s_asg ?_ rfl ?_ | refine' s_asg ?_ ?_ ?_ | (show VI.bindT _ _ _ = some _; rfl) | refine' s_par ?_ ?_ ?_ | refine' s_expr ?_ ?_ | refine' s_ite ?_ ?_ | refine' s_app ?_ ?_ ?_ ?_ | refine' q_nil ?_ | refine' q_ret ?_ | exact q_raise | refine' q_asg ?_ rfl ?_ | refine' q_asg ?_ ?_ ?_ | refine' q_par ?_ ?_ ?_ | refine' q_expr ?_ ?_ | refine' q_ite ?_ | exact o_add | exact o_sub | refine' o_mul ?_ | refine' o_fdiv ?_ | refine' o_mod ?_ | exact o_neg | exact o_abs | exact o_int | exact o_gcd | exact o_lenT | exact o_lenL | exact o_eqI | exact o_ltI | exact o_leI | exact o_gtI | exact o_geI | exact o_neI | (show VI.setParts _ _ _ = some _; rfl) | (show VI.isSeq _ = some _; rfl) | exact Bop.mk rfl | exact Cop.mk rfl | exact Bin.mk rfl | exact Ngd.mk rfl | exact Isd.mk rfl | exact Idx.mk rfl | exact Ctd.mk rfl | exact Jnd.mk rfl)
  have ne := ne_L (ableL c)
  unfold firstQ
  cases z : ableL c with
  | nil =>
    rw [z] at c2 ne
    have ne : Cop .ne (.lst []) (.lst []) false := ne
    show Xs _ _ _ _ _ _ (.ok (.ret (.int 0)) w)
    repeat' (first | exact g _ | exact c1 _ | exact c2 _ | exact ne | exact v_con | exact v_nil | refine' v_var ?_ | exact Get.mk rfl | refine' v_cons ?_ ?_ | refine' v_tup ?_ | refine' v_lst ?_ | refine' v_neg ?_ ?_ | refine' v_not ?_ ?_ | refine' v_bin ?_ ?_ ?_ | refine' v_cmp ?_ ?_ ?_ | refine' v_and ?_ ?_ | refine' v_or ?_ ?_ | refine' v_ite ?_ ?_ | refine' v_chain ?_ ?_ ?_ ?_ | refine' v_bi ?_ ?_ | refine' v_idx ?_ ?_ ?_ | refine' v_isi ?_ ?_ | refine' v_slLo ?_ ?_ ?_ | refine' v_slHi ?_ ?_ ?_ | refine' v_slBo ?_ ?_ ?_ ?_ | refine' v_mjoin ?_ ?_ ?_ | refine' v_call ?_ ?_ | refine' v_callv ?_ ?_ ?_ ?_ | refine' v_err ?_ ?_ | exact Tru.mk rfl | refine' AndV.t (Tru.mk rfl) _ _ ?_ | exact AndV.f (Tru.mk rfl) | refine' OrV.f (Tru.mk rfl) _ _ ?_ | exact OrV.t (Tru.mk rfl) | refine' ChV.t (Tru.mk rfl) _ _ _ ?_ ?_ | exact ChV.f (Tru.mk rfl) | refine' IteV.t (Tru.mk rfl) ?_ | refine' IteV.f (Tru.mk rfl) ?_ | refine' IteS.t (Tru.mk rfl) ?_ | refine' IteS.f (Tru.mk rfl) ?_ | exact s_nil | exact s_raise | refine' s_ret ?_ | refine' s_asg ?_ rfl ?_ | refine' s_asg ?_ ?_ ?_ | (show VI.bindT _ _ _ = some _; rfl) | refine' s_par ?_ ?_ ?_ | refine' s_expr ?_ ?_ | refine' s_ite ?_ ?_ | refine' s_app ?_ ?_ ?_ ?_ | refine' q_nil ?_ | refine' q_ret ?_ | exact q_raise | refine' q_asg ?_ rfl ?_ | refine' q_asg ?_ ?_ ?_ | refine' q_par ?_ ?_ ?_ | refine' q_expr ?_ ?_ | refine' q_ite ?_ | exact o_add | exact o_sub | refine' o_mul ?_ | refine' o_fdiv ?_ | refine' o_mod ?_ | exact o_neg | exact o_abs | exact o_int | exact o_gcd | exact o_lenT | exact o_lenL | exact o_eqI | exact o_ltI | exact o_leI | exact o_gtI | exact o_geI | exact o_neI | (show VI.setParts _ _ _ = some _; rfl) | (show VI.isSeq _ = some _; rfl) | exact Bop.mk rfl | exact Cop.mk rfl | exact Bin.mk rfl | exact Ngd.mk rfl | exact Isd.mk rfl | exact Idx.mk rfl | exact Ctd.mk rfl | exact Jnd.mk rfl)
  | cons a l =>
    rw [← z]
    rw [show (!(ableL c).isEmpty) = true by rw [z]; rfl] at ne
    have la := fun w => last_at (l := ableL c) (w := w) (by rw [z]; exact fun h => by cases h)
    repeat' (first | exact g _ | exact c1 _ | exact c2 _ | exact ne | exact la _ | exact v_con | exact v_nil | refine' v_var ?_ | exact Get.mk rfl | refine' v_cons ?_ ?_ | refine' v_tup ?_ | refine' v_lst ?_ | refine' v_neg ?_ ?_ | refine' v_not ?_ ?_ | refine' v_bin ?_ ?_ ?_ | refine' v_cmp ?_ ?_ ?_ | refine' v_and ?_ ?_ | refine' v_or ?_ ?_ | refine' v_ite ?_ ?_ | refine' v_chain ?_ ?_ ?_ ?_ | refine' v_bi ?_ ?_ | refine' v_idx ?_ ?_ ?_ | refine' v_isi ?_ ?_ | refine' v_slLo ?_ ?_ ?_ | refine' v_slHi ?_ ?_ ?_ | refine' v_slBo ?_ ?_ ?_ ?_ | refine' v_mjoin ?_ ?_ ?_ | refine' v_call ?_ ?_ | refine' v_callv ?_ ?_ ?_ ?_ | refine' v_err ?_ ?_ | exact Tru.mk rfl | refine' AndV.t (Tru.mk rfl) _ _ ?_ | exact AndV.f (Tru.mk rfl) | refine' OrV.f (Tru.mk rfl) _ _ ?_ | exact OrV.t (Tru.mk rfl) | refine' ChV.t (Tru.mk rfl) _ _ _ ?_ ?_ | exact ChV.f (Tru.mk rfl) | refine' IteV.t (Tru.mk rfl) ?_ | refine' IteV.f (Tru.mk rfl) ?_ | refine' IteS.t (Tru.mk rfl) ?_ | refine' IteS.f (Tru.mk rfl) ?_ | exact s_nil | exact s_raise | refine' s_ret ?_ | refine' s_asg ?_ rfl ?_ | refine' s_asg ?_ ?_ ?_ | (show VI.bindT _ _ _ = some _; rfl) | refine' s_par ?_ ?_ ?_ | refine' s_expr ?_ ?_ | refine' s_ite ?_ ?_ | refine' s_app ?_ ?_ ?_ ?_ | refine' q_nil ?_ | refine' q_ret ?_ | exact q_raise | refine' q_asg ?_ rfl ?_ | refine' q_asg ?_ ?_ ?_ | refine' q_par ?_ ?_ ?_ | refine' q_expr ?_ ?_ | refine' q_ite ?_ | exact o_add | exact o_sub | refine' o_mul ?_ | refine' o_fdiv ?_ | refine' o_mod ?_ | exact o_neg | exact o_abs | exact o_int | exact o_gcd | exact o_lenT | exact o_lenL | exact o_eqI | exact o_ltI | exact o_leI | exact o_gtI | exact o_geI | exact o_neI | (show VI.setParts _ _ _ = some _; rfl) | (show VI.isSeq _ = some _; rfl) | exact Bop.mk rfl | exact Cop.mk rfl | exact Bin.mk rfl | exact Ngd.mk rfl | exact Isd.mk rfl | exact Idx.mk rfl | exact Ctd.mk rfl | exact Jnd.mk rfl)
def bestL (c : List Rat) : List Nat := (List.range c.length).filter fun s => decide (ownQ (c.drop s) = bestQ c)
abbrev dT (l : List Nat) : D := .tup (l.map dN)
theorem st_map (c : List Rat) : stQ c = (List.range c.length).map fun s => ownQ (c.drop s) := by
  refine List.ext_getElem? fun i => ?_
  by_cases h : i < c.length
  · rw [st_at h, List.getElem?_map, List.getElem?_range h]
    rfl
  · rw [List.getElem?_eq_none (by rw [st_len]; omega), List.getElem?_eq_none (by rw [List.length_map, List.length_range]; omega)]
theorem bests_cl {k : Nat} {c : List Rat} {w : List D} (h : Chs c) (h1 : 1 ≤ c.length) (hl : c.length ≤ 40) : Cl (VI.run PR (k + 6)) 17 [dL c] w (.ok (dT (bestL c)) w) := by
  refine r_ret rfl rfl rfl ?_
  have g := fun w => needC (k := k + 1) (w := w) h h1 hl
  have b := fun w => best_cl (k := k) (w := w) h hl
  have s := fun w => starts_cl (k := k + 1) (w := w) h hl
  have en : Bin .enum [.lst ((stQ c).map dQ)] (.lst ((List.range c.length).map fun s => .tup [dN s, dQ (ownQ (c.drop s))])) := ⟨by
    show some (D.lst _) = _
    rw [st_map, List.map_map]
    rw [show (dQ ∘ fun s => ownQ (c.drop s)) = fun s => dQ (ownQ (c.drop s)) from rfl, enum_map]⟩
  have c2 : ∀ w, Ev (VI.run PR (k + 5)) (etOf PR) ar (.compIf (.var 2) (.tp (.cons (.nm 2) (.cons (.nm 3) .nil))) (.bi .enum (.cons (.call 10 (.cons (.var 0) .nil)) .nil)) (.cmp .eq (.var 3) (.var 1))) [some (dL c), some (dQ (bestQ c)), none, none] w (.ok (.lst ((bestL c).map dN)) w) := fun w => by
    refine B.v_compIf (s := .lst ((List.range c.length).map fun s => D.tup [dN s, dQ (ownQ (c.drop s))])) (w1 := w) ?_ rfl (by rw [List.length_map, List.length_range]; unfold line; omega) (comp_e (p := fun s => decide (ownQ (c.drop s) = bestQ c)) (List.range c.length) (fun i hi => ?_) fun i hi => ?_)
    · repeat' (first | exact s _ | exact en | exact v_con | exact v_nil | refine' v_var ?_ | exact Get.mk rfl | refine' v_cons ?_ ?_ | refine' v_tup ?_ | refine' v_lst ?_ | refine' v_neg ?_ ?_ | refine' v_not ?_ ?_ | refine' v_bin ?_ ?_ ?_ | refine' v_cmp ?_ ?_ ?_ | refine' v_and ?_ ?_ | refine' v_or ?_ ?_ | refine' v_ite ?_ ?_ | refine' v_chain ?_ ?_ ?_ ?_ | refine' v_bi ?_ ?_ | refine' v_idx ?_ ?_ ?_ | refine' v_isi ?_ ?_ | refine' v_slLo ?_ ?_ ?_ | refine' v_slHi ?_ ?_ ?_ | refine' v_slBo ?_ ?_ ?_ ?_ | refine' v_mjoin ?_ ?_ ?_ | refine' v_call ?_ ?_ | refine' v_callv ?_ ?_ ?_ ?_ | refine' v_err ?_ ?_ | exact Tru.mk rfl | refine' AndV.t (Tru.mk rfl) _ _ ?_ | exact AndV.f (Tru.mk rfl) | refine' OrV.f (Tru.mk rfl) _ _ ?_ | exact OrV.t (Tru.mk rfl) | refine' ChV.t (Tru.mk rfl) _ _ _ ?_ ?_ | exact ChV.f (Tru.mk rfl) | refine' IteV.t (Tru.mk rfl) ?_ | refine' IteV.f (Tru.mk rfl) ?_ | refine' IteS.t (Tru.mk rfl) ?_ | refine' IteS.f (Tru.mk rfl) ?_ | exact s_nil | exact s_raise | refine' s_ret ?_ | refine' s_asg ?_ rfl ?_ | refine' s_asg ?_ ?_ ?_ | (show VI.bindT _ _ _ = some _; rfl) | refine' s_par ?_ ?_ ?_ | refine' s_expr ?_ ?_ | refine' s_ite ?_ ?_ | refine' s_app ?_ ?_ ?_ ?_ | refine' q_nil ?_ | refine' q_ret ?_ | exact q_raise | refine' q_asg ?_ rfl ?_ | refine' q_asg ?_ ?_ ?_ | refine' q_par ?_ ?_ ?_ | refine' q_expr ?_ ?_ | refine' q_ite ?_ | exact o_add | exact o_sub | refine' o_mul ?_ | refine' o_fdiv ?_ | refine' o_mod ?_ | exact o_neg | exact o_abs | exact o_int | exact o_gcd | exact o_lenT | exact o_lenL | exact o_eqI | exact o_ltI | exact o_leI | exact o_gtI | exact o_geI | exact o_neI | (show VI.setParts _ _ _ = some _; rfl) | (show VI.isSeq _ = some _; rfl) | exact Bop.mk rfl | exact Cop.mk rfl | exact Bin.mk rfl | exact Ngd.mk rfl | exact Isd.mk rfl | exact Idx.mk rfl | exact Ctd.mk rfl | exact Jnd.mk rfl)
    · have e := eq_QQ (ownQ (c.drop i)) (bestQ c)
      refine bind_ok' (w1 := w) (a := [some (dL c), some (dQ (bestQ c)), some (dN i), some (dQ (ownQ (c.drop i)))]) rfl (bind_ok' (a := .bl (decide (ownQ (c.drop i) = bestQ c))) (w1 := w) (B.calm_ok (Ev.q ?_)) rfl)
      repeat' (first | exact e | exact v_con | exact v_nil | refine' v_var ?_ | exact Get.mk rfl | refine' v_cons ?_ ?_ | refine' v_tup ?_ | refine' v_lst ?_ | refine' v_neg ?_ ?_ | refine' v_not ?_ ?_ | refine' v_bin ?_ ?_ ?_ | refine' v_cmp ?_ ?_ ?_ | refine' v_and ?_ ?_ | refine' v_or ?_ ?_ | refine' v_ite ?_ ?_ | refine' v_chain ?_ ?_ ?_ ?_ | refine' v_bi ?_ ?_ | refine' v_idx ?_ ?_ ?_ | refine' v_isi ?_ ?_ | refine' v_slLo ?_ ?_ ?_ | refine' v_slHi ?_ ?_ ?_ | refine' v_slBo ?_ ?_ ?_ ?_ | refine' v_mjoin ?_ ?_ ?_ | refine' v_call ?_ ?_ | refine' v_callv ?_ ?_ ?_ ?_ | refine' v_err ?_ ?_ | exact Tru.mk rfl | refine' AndV.t (Tru.mk rfl) _ _ ?_ | exact AndV.f (Tru.mk rfl) | refine' OrV.f (Tru.mk rfl) _ _ ?_ | exact OrV.t (Tru.mk rfl) | refine' ChV.t (Tru.mk rfl) _ _ _ ?_ ?_ | exact ChV.f (Tru.mk rfl) | refine' IteV.t (Tru.mk rfl) ?_ | refine' IteV.f (Tru.mk rfl) ?_ | refine' IteS.t (Tru.mk rfl) ?_ | refine' IteS.f (Tru.mk rfl) ?_ | exact s_nil | exact s_raise | refine' s_ret ?_ | refine' s_asg ?_ rfl ?_ | refine' s_asg ?_ ?_ ?_ | (show VI.bindT _ _ _ = some _; rfl) | refine' s_par ?_ ?_ ?_ | refine' s_expr ?_ ?_ | refine' s_ite ?_ ?_ | refine' s_app ?_ ?_ ?_ ?_ | refine' q_nil ?_ | refine' q_ret ?_ | exact q_raise | refine' q_asg ?_ rfl ?_ | refine' q_asg ?_ ?_ ?_ | refine' q_par ?_ ?_ ?_ | refine' q_expr ?_ ?_ | refine' q_ite ?_ | exact o_add | exact o_sub | refine' o_mul ?_ | refine' o_fdiv ?_ | refine' o_mod ?_ | exact o_neg | exact o_abs | exact o_int | exact o_gcd | exact o_lenT | exact o_lenL | exact o_eqI | exact o_ltI | exact o_leI | exact o_gtI | exact o_geI | exact o_neI | (show VI.setParts _ _ _ = some _; rfl) | (show VI.isSeq _ = some _; rfl) | exact Bop.mk rfl | exact Cop.mk rfl | exact Bin.mk rfl | exact Ngd.mk rfl | exact Isd.mk rfl | exact Idx.mk rfl | exact Ctd.mk rfl | exact Jnd.mk rfl)
    · refine bind_ok' (w1 := w) (a := [some (dL c), some (dQ (bestQ c)), some (dN i), some (dQ (ownQ (c.drop i)))]) rfl (B.calm_ok (Ev.q ?_))
      repeat' (first | exact v_con | exact v_nil | refine' v_var ?_ | exact Get.mk rfl | refine' v_cons ?_ ?_ | refine' v_tup ?_ | refine' v_lst ?_ | refine' v_neg ?_ ?_ | refine' v_not ?_ ?_ | refine' v_bin ?_ ?_ ?_ | refine' v_cmp ?_ ?_ ?_ | refine' v_and ?_ ?_ | refine' v_or ?_ ?_ | refine' v_ite ?_ ?_ | refine' v_chain ?_ ?_ ?_ ?_ | refine' v_bi ?_ ?_ | refine' v_idx ?_ ?_ ?_ | refine' v_isi ?_ ?_ | refine' v_slLo ?_ ?_ ?_ | refine' v_slHi ?_ ?_ ?_ | refine' v_slBo ?_ ?_ ?_ ?_ | refine' v_mjoin ?_ ?_ ?_ | refine' v_call ?_ ?_ | refine' v_callv ?_ ?_ ?_ ?_ | refine' v_err ?_ ?_ | exact Tru.mk rfl | refine' AndV.t (Tru.mk rfl) _ _ ?_ | exact AndV.f (Tru.mk rfl) | refine' OrV.f (Tru.mk rfl) _ _ ?_ | exact OrV.t (Tru.mk rfl) | refine' ChV.t (Tru.mk rfl) _ _ _ ?_ ?_ | exact ChV.f (Tru.mk rfl) | refine' IteV.t (Tru.mk rfl) ?_ | refine' IteV.f (Tru.mk rfl) ?_ | refine' IteS.t (Tru.mk rfl) ?_ | refine' IteS.f (Tru.mk rfl) ?_ | exact s_nil | exact s_raise | refine' s_ret ?_ | refine' s_asg ?_ rfl ?_ | refine' s_asg ?_ ?_ ?_ | (show VI.bindT _ _ _ = some _; rfl) | refine' s_par ?_ ?_ ?_ | refine' s_expr ?_ ?_ | refine' s_ite ?_ ?_ | refine' s_app ?_ ?_ ?_ ?_ | refine' q_nil ?_ | refine' q_ret ?_ | exact q_raise | refine' q_asg ?_ rfl ?_ | refine' q_asg ?_ ?_ ?_ | refine' q_par ?_ ?_ ?_ | refine' q_expr ?_ ?_ | refine' q_ite ?_ | exact o_add | exact o_sub | refine' o_mul ?_ | refine' o_fdiv ?_ | refine' o_mod ?_ | exact o_neg | exact o_abs | exact o_int | exact o_gcd | exact o_lenT | exact o_lenL | exact o_eqI | exact o_ltI | exact o_leI | exact o_gtI | exact o_geI | exact o_neI | (show VI.setParts _ _ _ = some _; rfl) | (show VI.isSeq _ = some _; rfl) | exact Bop.mk rfl | exact Cop.mk rfl | exact Bin.mk rfl | exact Ngd.mk rfl | exact Isd.mk rfl | exact Idx.mk rfl | exact Ctd.mk rfl | exact Jnd.mk rfl)
  have tp : Bin .tuple [.lst ((bestL c).map dN)] (dT (bestL c)) := ⟨rfl⟩
  repeat' (first | exact g _ | exact b _ | exact c2 _ | exact tp | exact v_con | exact v_nil | refine' v_var ?_ | exact Get.mk rfl | refine' v_cons ?_ ?_ | refine' v_tup ?_ | refine' v_lst ?_ | refine' v_neg ?_ ?_ | refine' v_not ?_ ?_ | refine' v_bin ?_ ?_ ?_ | refine' v_cmp ?_ ?_ ?_ | refine' v_and ?_ ?_ | refine' v_or ?_ ?_ | refine' v_ite ?_ ?_ | refine' v_chain ?_ ?_ ?_ ?_ | refine' v_bi ?_ ?_ | refine' v_idx ?_ ?_ ?_ | refine' v_isi ?_ ?_ | refine' v_slLo ?_ ?_ ?_ | refine' v_slHi ?_ ?_ ?_ | refine' v_slBo ?_ ?_ ?_ ?_ | refine' v_mjoin ?_ ?_ ?_ | refine' v_call ?_ ?_ | refine' v_callv ?_ ?_ ?_ ?_ | refine' v_err ?_ ?_ | exact Tru.mk rfl | refine' AndV.t (Tru.mk rfl) _ _ ?_ | exact AndV.f (Tru.mk rfl) | refine' OrV.f (Tru.mk rfl) _ _ ?_ | exact OrV.t (Tru.mk rfl) | refine' ChV.t (Tru.mk rfl) _ _ _ ?_ ?_ | exact ChV.f (Tru.mk rfl) | refine' IteV.t (Tru.mk rfl) ?_ | refine' IteV.f (Tru.mk rfl) ?_ | refine' IteS.t (Tru.mk rfl) ?_ | refine' IteS.f (Tru.mk rfl) ?_ | exact s_nil | exact s_raise | refine' s_ret ?_ | refine' s_asg ?_ rfl ?_ | refine' s_asg ?_ ?_ ?_ | (show VI.bindT _ _ _ = some _; rfl) | refine' s_par ?_ ?_ ?_ | refine' s_expr ?_ ?_ | refine' s_ite ?_ ?_ | refine' s_app ?_ ?_ ?_ ?_ | refine' q_nil ?_ | refine' q_ret ?_ | exact q_raise | refine' q_asg ?_ rfl ?_ | refine' q_asg ?_ ?_ ?_ | refine' q_par ?_ ?_ ?_ | refine' q_expr ?_ ?_ | refine' q_ite ?_ | exact o_add | exact o_sub | refine' o_mul ?_ | refine' o_fdiv ?_ | refine' o_mod ?_ | exact o_neg | exact o_abs | exact o_int | exact o_gcd | exact o_lenT | exact o_lenL | exact o_eqI | exact o_ltI | exact o_leI | exact o_gtI | exact o_geI | exact o_neI | (show VI.setParts _ _ _ = some _; rfl) | (show VI.isSeq _ = some _; rfl) | exact Bop.mk rfl | exact Cop.mk rfl | exact Bin.mk rfl | exact Ngd.mk rfl | exact Isd.mk rfl | exact Idx.mk rfl | exact Ctd.mk rfl | exact Jnd.mk rfl)
end K28
end
section
set_option maxRecDepth 100000
set_option maxHeartbeats 4000000
namespace K28
open PySem VI VI.Q
/-! ### the best start (odds) -/
theorem none_nn : ∀ {l : List Rat}, Chs l → 0 ≤ noneQ l ∧ noneQ l ≤ 1
  | [], _ => by constructor <;> decide
  | p :: l, h => by
    obtain ⟨a, b⟩ := none_nn h.tail
    obtain ⟨c, d, _⟩ := h.head
    have q : 0 ≤ 1 - p := by grind
    have r : 1 - p ≤ 1 := by grind
    refine ⟨Rat.mul_nonneg a q, ?_⟩
    show noneQ l * (1 - p) ≤ 1
    have t := Rat.mul_le_mul_of_nonneg_left r a
    grind
theorem own_nn : ∀ {l : List Rat}, Chs l → 0 ≤ ownQ l
  | [], _ => by decide
  | p :: l, h => by
    obtain ⟨a, b⟩ := none_nn h.tail
    obtain ⟨c, d, _⟩ := h.head
    have q : 0 ≤ 1 - p := by grind
    have t1 := Rat.mul_nonneg c a
    have t2 := Rat.mul_nonneg q (own_nn h.tail)
    show 0 ≤ p * noneQ l + (1 - p) * ownQ l
    grind
/-- none behind is not better than one behind -/
def Ab (l : List Rat) : Prop := noneQ l ≤ ownQ l
theorem ab_cons {p : Rat} {l : List Rat} (h : Chs (p :: l)) (a : Ab l) : Ab (p :: l) := by
  obtain ⟨n0, n1⟩ := none_nn h.tail
  obtain ⟨c, d, _⟩ := h.head
  have q : 0 ≤ 1 - p := by grind
  have t1 := Rat.mul_nonneg c n0
  have t2 := Rat.mul_le_mul_of_nonneg_left a q
  show noneQ l * (1 - p) ≤ p * noneQ l + (1 - p) * ownQ l
  grind
theorem own_up {p : Rat} {l : List Rat} (h : Chs (p :: l)) (a : Ab l) : ownQ (p :: l) ≤ ownQ l := by
  obtain ⟨c, d, _⟩ := h.head
  have t := Rat.mul_le_mul_of_nonneg_left a c
  show p * noneQ l + (1 - p) * ownQ l ≤ ownQ l
  grind
theorem own_dn {p : Rat} {l : List Rat} (h : Chs (p :: l)) (a : ¬ Ab l) : ownQ l ≤ ownQ (p :: l) := by
  obtain ⟨c, d, _⟩ := h.head
  have a : ownQ l ≤ noneQ l := Rat.le_of_lt (Rat.not_le.mp a)
  have t := Rat.mul_le_mul_of_nonneg_left a c
  show ownQ l ≤ p * noneQ l + (1 - p) * ownQ l
  grind
/-- the first stop: the longest row that is not able, one longer -/
def topQ : List Rat → Rat
  | [] => 0
  | p :: l => if noneQ l ≤ ownQ l then topQ l else ownQ (p :: l)
/-- the way of the law: what is best from the end on -/
def aheadQ : List Rat → Rat
  | [] => 0
  | p :: l => p * (if aheadQ l < noneQ l then noneQ l else aheadQ l) + (1 - p) * aheadQ l
theorem not_ab_nil : ¬ Ab [] := by unfold Ab; decide
theorem top_le : ∀ {l : List Rat}, Chs l → ownQ l ≤ topQ l ∧ (Ab l → noneQ l ≤ topQ l) ∧ (¬ Ab l → topQ l = ownQ l)
  | [], _ => ⟨Rat.le_refl, fun h => absurd h not_ab_nil, fun _ => rfl⟩
  | p :: l, h => by
    obtain ⟨a, b, c⟩ := top_le h.tail
    unfold topQ
    by_cases z : noneQ l ≤ ownQ l
    · rw [if_pos z]
      have u := own_up h z
      have ab := ab_cons h z
      refine ⟨Rat.le_trans u a, fun k => Rat.le_trans k (Rat.le_trans u a), fun k => absurd ab k⟩
    · rw [if_neg z]
      exact ⟨Rat.le_refl, fun k => k, fun _ => rfl⟩
theorem ahead_top : ∀ {l : List Rat}, Chs l → aheadQ l = topQ l
  | [], _ => rfl
  | p :: l, h => by
    have ih := ahead_top h.tail
    obtain ⟨a, b, c⟩ := top_le h.tail
    unfold aheadQ topQ
    rw [ih]
    by_cases z : noneQ l ≤ ownQ l
    · rw [if_pos z]
      have nb := b z
      have : ¬ topQ l < noneQ l := Rat.not_lt.mpr nb
      rw [if_neg this]
      grind
    · rw [if_neg z]
      have e := c z
      rw [e]
      have : ownQ l < noneQ l := Rat.not_le.mp z
      rw [if_pos this]
      rfl
theorem mx_le (x f : Rat) : f ≤ mxQ f x ∧ x ≤ mxQ f x ∧ (mxQ f x = f ∨ mxQ f x = x) := by
  unfold mxQ
  by_cases z : f < x
  · rw [if_pos z]
    exact ⟨Rat.le_of_lt z, Rat.le_refl, .inr rfl⟩
  · rw [if_neg z]
    exact ⟨Rat.le_refl, Rat.not_lt.mp z, .inl rfl⟩
theorem fold_mx : ∀ (xs : List Rat) (f : Rat), f ≤ xs.foldl mxQ f ∧ (∀ x ∈ xs, x ≤ xs.foldl mxQ f) ∧ (xs.foldl mxQ f = f ∨ xs.foldl mxQ f ∈ xs)
  | [], f => ⟨Rat.le_refl, fun _ h => absurd h List.not_mem_nil, .inl rfl⟩
  | x :: xs, f => by
    obtain ⟨a, b, c⟩ := fold_mx xs (mxQ f x)
    obtain ⟨d, e, g⟩ := mx_le x f
    show f ≤ xs.foldl mxQ (mxQ f x) ∧ _ ∧ (xs.foldl mxQ (mxQ f x) = f ∨ xs.foldl mxQ (mxQ f x) ∈ x :: xs)
    refine ⟨Rat.le_trans d a, fun y hy => ?_, ?_⟩
    · rcases List.mem_cons.mp hy with rfl | hy
      · exact Rat.le_trans e a
      · exact b y hy
    · rcases c with c | c
      · rcases g with g | g
        · exact .inl (c.trans g)
        · exact .inr (by rw [c, g]; exact List.mem_cons_self)
      · exact .inr (List.mem_cons_of_mem _ c)
theorem st_le_top : ∀ {l : List Rat}, Chs l → ∀ x ∈ stQ l, x ≤ topQ l
  | [], _, x, hx => absurd hx List.not_mem_nil
  | p :: l, h, x, hx => by
    rcases List.mem_cons.mp hx with rfl | hx
    · exact (top_le h).1
    · have i := st_le_top h.tail x hx
      obtain ⟨a, b, c⟩ := top_le h.tail
      unfold topQ
      by_cases z : noneQ l ≤ ownQ l
      · rw [if_pos z]; exact i
      · rw [if_neg z]
        rw [c z] at i
        exact Rat.le_trans i (own_dn h z)
theorem top_nn : ∀ {l : List Rat}, Chs l → 0 ≤ topQ l := fun {l} h => Rat.le_trans (own_nn h) (top_le h).1
/-- the place of the best start -/
def plc : List Rat → Nat
  | [] => 0
  | _ :: l => if noneQ l ≤ ownQ l then plc l + 1 else 0
theorem plc_at : ∀ {l : List Rat}, Chs l → l ≠ [] → plc l < l.length ∧ ownQ (l.drop (plc l)) = topQ l
  | [], _, h => absurd rfl h
  | p :: l, h, _ => by
    unfold plc topQ
    by_cases z : noneQ l ≤ ownQ l
    · rw [if_pos z, if_pos z]
      have hl : l ≠ [] := fun e => by subst e; exact not_ab_nil z
      obtain ⟨a, b⟩ := plc_at h.tail hl
      exact ⟨by rw [List.length_cons]; omega, b⟩
    · rw [if_neg z, if_neg z]
      exact ⟨by rw [List.length_cons]; omega, rfl⟩
theorem best_top {c : List Rat} (h : Chs c) (hc : c ≠ []) : bestQ c = topQ c := by
  obtain ⟨a, b, d⟩ := fold_mx (stQ c) 0
  obtain ⟨p1, p2⟩ := plc_at h hc
  refine Rat.le_antisymm ?_ ?_
  · rcases d with d | d
    · show (stQ c).foldl mxQ 0 ≤ _
      rw [d]; exact top_nn h
    · exact st_le_top h _ d
  · refine b (topQ c) ?_
    rw [← p2]
    exact List.mem_of_getElem? (st_at p1)
/-! odds: able, and none behind not better -/
theorem odd_own : ∀ (l : List Rat) (t : Rat), match oddQ t l with
    | some r => r = t + (r - t) ∧ (∃ R, r = t + R ∧ ownQ l = noneQ l * R) ∧ noneQ l ≠ 0
    | none => noneQ l = 0
  | [], t => by
    refine ⟨by grind, ⟨0, by grind, by show (0 : Rat) = 1 * 0; grind⟩, by show (1 : Rat) ≠ 0; decide⟩
  | p :: l, t => by
    unfold oddQ
    by_cases z : p = 1
    · rw [if_pos z]
      show noneQ l * (1 - p) = 0
      grind
    · rw [if_neg z]
      have ih := odd_own l (t + p / (1 - p))
      have q : 1 - p ≠ 0 := by grind
      split
      · rename_i r er
        rw [er] at ih
        obtain ⟨_, ⟨R, hr, ho⟩, hn⟩ := ih
        refine ⟨by grind, ⟨p / (1 - p) + R, by grind, ?_⟩, ?_⟩
        · show p * noneQ l + (1 - p) * ownQ l = noneQ l * (1 - p) * (p / (1 - p) + R)
          rw [ho]
          grind
        · show noneQ l * (1 - p) ≠ 0
          intro e
          grind
      · rename_i er
        rw [er] at ih
        show noneQ l * (1 - p) = 0
        grind
theorem abl_iff {c : List Rat} {s : Nat} (h : Chs c) : abl c s = true ↔ Ab (c.drop s) := by
  have o := odd_own (c.drop s) 0
  have nn := none_nn (h.drop s)
  have on := own_nn (h.drop s)
  unfold abl Ab
  split at o
  · rename_i r er
    obtain ⟨_, ⟨R, hr, ho⟩, hn⟩ := o
    have hR : r = R := by grind
    subst hR
    have np : 0 < noneQ (c.drop s) := by
      have : noneQ (c.drop s) ≠ 0 := hn
      exact Rat.lt_of_le_of_ne nn.1 (fun e => this e.symm)
    rw [er, ho]
    show decide (1 ≤ r) = true ↔ _
    rw [decide_eq_true_eq]
    constructor
    · intro k
      have := Rat.mul_le_mul_of_nonneg_left k nn.1
      grind
    · intro k
      have k : noneQ (c.drop s) * 1 ≤ noneQ (c.drop s) * r := by rw [Rat.mul_one]; exact k
      exact Rat.le_of_mul_le_mul_left k np
  · rename_i er
    rw [er]
    constructor
    · intro _; rw [o]; exact on
    · intro _; rfl
/-- the rows that are able are the longer ones -/
theorem able_dn {c : List Rat} (h : Chs c) : ∀ (d s : Nat), Ab (c.drop (s + d)) → Ab (c.drop s)
  | 0, _, a => a
  | d + 1, s, a => by
    have ih := able_dn h d (s + 1) (by rw [show s + 1 + d = s + (d + 1) by omega]; exact a)
    by_cases hs : s < c.length
    · have e := List.drop_eq_getElem_cons hs
      rw [e]
      refine ab_cons ?_ ih
      rw [← e]
      exact h.drop s
    · rw [List.drop_eq_nil_of_le (by omega)] at ih
      exact absurd ih not_ab_nil
theorem plc_spec : ∀ {l : List Rat}, Chs l → ∀ s, s ≤ plc l → 1 ≤ s → Ab (l.drop s)
  | [], _, s, hs, h1 => by
    have : plc [] = 0 := rfl
    omega
  | p :: l, h, s, hs, h1 => by
    unfold plc at hs
    by_cases z : noneQ l ≤ ownQ l
    · rw [if_pos z] at hs
      obtain ⟨i, rfl⟩ : ∃ i, s = i + 1 := ⟨s - 1, by omega⟩
      show Ab (l.drop i)
      by_cases hi : 1 ≤ i
      · exact plc_spec h.tail i (by omega) hi
      · have : i = 0 := by omega
        subst this
        exact z
    · rw [if_neg z] at hs
      omega
theorem plc_end : ∀ {l : List Rat}, Chs l → ¬ Ab (l.drop (plc l + 1))
  | [], _ => not_ab_nil
  | p :: l, h => by
    unfold plc
    by_cases z : noneQ l ≤ ownQ l
    · rw [if_pos z]
      exact plc_end h.tail
    · rw [if_neg z]
      exact z
theorem first_plc {c : List Rat} (h : Chs c) (hc : c ≠ []) : firstQ c = plc c := by
  obtain ⟨p1, _⟩ := plc_at h hc
  have en := plc_end h
  have not : ∀ s, plc c < s → abl c s = false := fun s hs => by
    cases z : abl c s with
    | false => rfl
    | true =>
      have := (abl_iff h).mp z
      exact absurd (able_dn h (s - (plc c + 1)) (plc c + 1) (by rw [show plc c + 1 + (s - (plc c + 1)) = s by omega]; exact this)) en
  have sp : List.range c.length = List.range (plc c + 1) ++ (List.range (c.length - (plc c + 1))).map (plc c + 1 + ·) := by
    rw [← List.range_add]
    congr 1
    omega
  have e1 : ableL c = (List.range (plc c + 1)).filter (abl c) := by
    unfold ableL
    rw [sp, List.filter_append]
    have : ((List.range (c.length - (plc c + 1))).map (plc c + 1 + ·)).filter (abl c) = [] := by
      rw [List.filter_eq_nil_iff]
      intro x hx
      obtain ⟨i, _, rfl⟩ := List.mem_map.mp hx
      rw [not _ (by omega)]
      decide
    rw [this, List.append_nil]
  unfold firstQ
  rw [e1]
  by_cases z : abl c (plc c) = true
  · rw [List.range_succ, List.filter_append]
    have : [plc c].filter (abl c) = [plc c] := by rw [List.filter_cons_of_pos z]; rfl
    rw [this, List.length_append]
    rw [List.getElem?_append_right (by simp)]
    simp
  · have p0 : plc c = 0 := by
      by_cases q : 1 ≤ plc c
      · exact absurd ((abl_iff h).mpr (plc_spec h _ (Nat.le_refl _) q)) z
      · omega
    rw [p0]
    rw [p0] at z
    have : (List.range (0 + 1)).filter (abl c) = [] := by
      rw [List.filter_eq_nil_iff]
      intro x hx
      have := List.mem_range.mp hx
      have : x = 0 := by omega
      subst this
      exact z
    rw [this]
    rfl
theorem first_best {c : List Rat} (h : Chs c) (hc : c ≠ []) : firstQ c < c.length ∧ ownQ (c.drop (firstQ c)) = bestQ c ∧ aheadQ c = bestQ c := by
  obtain ⟨p1, p2⟩ := plc_at h hc
  rw [first_plc h hc, best_top h hc, ahead_top h]
  exact ⟨p1, p2, rfl⟩
end K28
end
section
set_option maxRecDepth 100000
set_option maxHeartbeats 4000000
namespace K28
open PySem VI VI.Q
theorem rng_cons (a d : Nat) : (List.range (d + 1)).map (fun i => dN (a + i)) = dN a :: (List.range d).map (fun i => dN (a + 1 + i)) := by
  rw [List.range_succ_eq_map, List.map_cons, List.map_map]
  refine congrArg (dN a :: ·) (List.map_congr_left fun i _ => ?_)
  exact congrArg dN (show a + (i + 1) = a + 1 + i by omega)
theorem range_from {n r : Nat} (h : n + r ≤ 1000000) : Bin .range [dN r, dN n] (.lst ((List.range (n - r)).map fun i => dN (r + i))) := ⟨by
  have e : biD .range [dN r, dN n] = (rangeD (r : Int) (n : Int) 1).map D.lst := rfl
  rw [e]
  unfold rangeD
  rw [small_nat (n := n) (by omega), small_nat (n := r) (by omega)]
  simp only [Bool.true_and, Bool.not_eq_true', decide_eq_false_iff_not, true_and]
  rw [if_neg (by decide), if_pos (by decide)]
  rw [Option.map_some]
  refine congrArg (fun l => some (D.lst l)) ?_
  rw [show ((n : Int) - (r : Int)).toNat = n - r by omega]
  refine List.map_congr_left fun i hi => ?_
  exact congrArg D.int (show (r : Int) + (i : Int) = ((r + i : Nat) : Int) by omega)⟩
/-! ### the law's chances of starts -/
def nBody : Ss := forB (nthS 1 (match nthS 1 (forB (nthS 1 f__law_starts.body)) with | .for _ _ b => b | _ => .nil))
def aBody : Ss := forB (nthS 1 (forB (nthS 1 f__law_starts.body)))
def fBody : Ss := forB (nthS 1 f__law_starts.body)
theorem none_loop {k : Nat} {w : List D} {e0 e1 e2 e3 e4 e5 : Option D} : ∀ (l : List Rat) (n : Rat) (m : Nat) (e7 : Option D), Chs l → Sz m n → m + 5 * l.length ≤ 7000 →
    ∃ e7', forL (fun d env => M.bind (liftO (bindT (.nm 7) d env)) fun env' => execs (VI.run PR (k + 4)) (etOf PR) ar nBody env') (l.map dQ) [e0, e1, e2, e3, e4, e5, some (dQ n), e7] w = .ok (.nx [e0, e1, e2, e3, e4, e5, some (dQ (n * noneQ l)), e7']) w
  | [], n, m, e7, _, _, _ => ⟨e7, by rw [show n * noneQ [] = n from by show n * 1 = n; rw [Rat.mul_one]]; rfl⟩
  | p :: l, n, m, e7, h, hn, hm => by
    rw [List.length_cons] at hm
    have o := fun w => other_cl (k := k) (w := w) h.head
    have t := fun w => ltm (k := k + 1) (w := w) hn h.head.one_sub.1 (by omega)
    have st : M.bind (liftO (bindT (.nm 7) (dQ p) [e0, e1, e2, e3, e4, e5, some (dQ n), e7])) (fun env' => execs (VI.run PR (k + 4)) (etOf PR) ar nBody env') w = .ok (.nx [e0, e1, e2, e3, e4, e5, some (dQ (n * (1 - p))), some (dQ p)]) w := by
      refine bind_ok' (w1 := w) (a := [e0, e1, e2, e3, e4, e5, some (dQ n), some (dQ p)]) rfl (Xs.q ?_)
      repeat' (first | exact o _ | exact t _ | exact v_con | exact v_nil | refine' v_var ?_ | exact Get.mk rfl | refine' v_cons ?_ ?_ | refine' v_tup ?_ | refine' v_lst ?_ | refine' v_neg ?_ ?_ | refine' v_not ?_ ?_ | refine' v_bin ?_ ?_ ?_ | refine' v_cmp ?_ ?_ ?_ | refine' v_and ?_ ?_ | refine' v_or ?_ ?_ | refine' v_ite ?_ ?_ | refine' v_chain ?_ ?_ ?_ ?_ | refine' v_bi ?_ ?_ | refine' v_idx ?_ ?_ ?_ | refine' v_isi ?_ ?_ | refine' v_slLo ?_ ?_ ?_ | refine' v_slHi ?_ ?_ ?_ | refine' v_slBo ?_ ?_ ?_ ?_ | refine' v_mjoin ?_ ?_ ?_ | refine' v_call ?_ ?_ | refine' v_callv ?_ ?_ ?_ ?_ | refine' v_err ?_ ?_ | exact Tru.mk rfl | refine' AndV.t (Tru.mk rfl) _ _ ?_ | exact AndV.f (Tru.mk rfl) | refine' OrV.f (Tru.mk rfl) _ _ ?_ | exact OrV.t (Tru.mk rfl) | refine' ChV.t (Tru.mk rfl) _ _ _ ?_ ?_ | exact ChV.f (Tru.mk rfl) | refine' IteV.t (Tru.mk rfl) ?_ | refine' IteV.f (Tru.mk rfl) ?_ | refine' IteS.t (Tru.mk rfl) ?_ | refine' IteS.f (Tru.mk rfl) ?_ | exact s_nil | exact s_raise | refine' s_ret ?_ | refine' s_asg ?_ rfl ?_ | refine' s_asg ?_ ?_ ?_ | (show VI.bindT _ _ _ = some _; rfl) | refine' s_par ?_ ?_ ?_ | refine' s_expr ?_ ?_ | refine' s_ite ?_ ?_ | refine' s_app ?_ ?_ ?_ ?_ | refine' q_nil ?_ | refine' q_ret ?_ | exact q_raise | refine' q_asg ?_ rfl ?_ | refine' q_asg ?_ ?_ ?_ | refine' q_par ?_ ?_ ?_ | refine' q_expr ?_ ?_ | refine' q_ite ?_ | exact o_add | exact o_sub | refine' o_mul ?_ | refine' o_fdiv ?_ | refine' o_mod ?_ | exact o_neg | exact o_abs | exact o_int | exact o_gcd | exact o_lenT | exact o_lenL | exact o_eqI | exact o_ltI | exact o_leI | exact o_gtI | exact o_geI | exact o_neI | (show VI.setParts _ _ _ = some _; rfl) | (show VI.isSeq _ = some _; rfl) | exact Bop.mk rfl | exact Cop.mk rfl | exact Bin.mk rfl | exact Ngd.mk rfl | exact Isd.mk rfl | exact Idx.mk rfl | exact Ctd.mk rfl | exact Jnd.mk rfl)
    obtain ⟨e7', g⟩ := none_loop (k := k) (w := w) (e0 := e0) (e1 := e1) (e2 := e2) (e3 := e3) (e4 := e4) (e5 := e5) l (n * (1 - p)) (m + 5) (some (dQ p)) h.tail (tmQ hn h.head.one_sub.1 (by omega)).2 (by omega)
    refine ⟨e7', bind_ok' st ?_⟩
    rw [show n * noneQ (p :: l) = n * (1 - p) * noneQ l from by show n * (noneQ l * (1 - p)) = _; grind]
    exact g
theorem get_drop {c : List Rat} {a : Nat} (h : a < c.length) : ∃ p, c[a]? = some p ∧ c.drop a = p :: c.drop (a + 1) := ⟨c[a], List.getElem?_eq_getElem h, List.drop_eq_getElem_cons h⟩
theorem at_loop {k : Nat} {c : List Rat} {w : List D} {e1 e2 : Option D} (h : Chs c) (hl : c.length ≤ 14) : ∀ (d a : Nat) (t x : Rat) (m1 m2 : Nat) (e5 e6 e7 : Option D), a + d = c.length → Sz m1 t → Sz m2 x → m2 + 5 * d ≤ 100 → m1 + 180 * d ≤ 7000 →
    ∃ e4' e5' e6' e7', forL (fun d env => M.bind (liftO (bindT (.nm 5) d env)) fun env' => execs (VI.run PR (k + 4)) (etOf PR) ar aBody env') ((List.range d).map fun i => dN (a + i)) [some (dL c), e1, e2, some (dQ t), some (dQ x), e5, e6, e7] w = .ok (.nx [some (dL c), e1, e2, some (dQ (t + x * ownQ (c.drop a))), e4', e5', e6', e7']) w
  | 0, a, t, x, m1, m2, e5, e6, e7, ha, _, _, _, _ => by
    refine ⟨some (dQ x), e5, e6, e7, ?_⟩
    rw [List.drop_eq_nil_of_le (by omega), show t + x * ownQ [] = t from by show t + x * 0 = t; grind]
    rfl
  | d + 1, a, t, x, m1, m2, e5, e6, e7, ha, ht, hx, k1, k2 => by
    obtain ⟨p, hp, hd⟩ := get_drop (c := c) (a := a) (by omega)
    have hc : Chs (p :: c.drop (a + 1)) := by rw [← hd]; exact h.drop a
    have nl : (c.drop (a + 1)).length ≤ 13 := by rw [List.length_drop]; omega
    obtain ⟨e7', g⟩ := none_loop (k := k) (w := w) (e0 := some (dL c)) (e1 := e1) (e2 := e2) (e3 := some (dQ t)) (e4 := some (dQ x)) (e5 := some (dN a)) (c.drop (a + 1)) 1 1 e7 hc.tail sz1 (by omega)
    rw [Rat.one_mul] at g
    have nz := none_sz hc.tail (by omega)
    have z1 := (tmQ hx hc.head.sz (by omega)).2
    have z2 := (tmQ z1 nz (by omega)).2
    have q1 := fun w => ltm (k := k + 1) (w := w) hx hc.head.sz (by omega)
    have q2 := fun w => ltm (k := k + 1) (w := w) z1 nz (by omega)
    have q3 := fun w => lpl (k := k + 1) (w := w) ht z2 (by omega)
    have q4 := fun w => other_cl (k := k) (w := w) hc.head
    have q5 := fun w => ltm (k := k + 1) (w := w) hx hc.head.one_sub.1 (by omega)
    have ix : ∀ w, Idx (dL c) (dN a) w (.ok (dQ p) w) := fun w => i_tup (j := a) (by rw [List.getElem?_map, hp]; rfl) rfl
    have ct : Ctd (dL c) (some ((a : Int) + 1)) none (dL (c.drop (a + 1))) := cut_Q (s := a + 1) (by omega)
    have st : M.bind (liftO (bindT (.nm 5) (dN a) [some (dL c), e1, e2, some (dQ t), some (dQ x), e5, e6, e7])) (fun env' => execs (VI.run PR (k + 4)) (etOf PR) ar aBody env') w = .ok (.nx [some (dL c), e1, e2, some (dQ (t + x * p * noneQ (c.drop (a + 1)))), some (dQ (x * (1 - p))), some (dN a), some (dQ (noneQ (c.drop (a + 1)))), e7']) w := by
      refine bind_ok' (w1 := w) (a := [some (dL c), e1, e2, some (dQ t), some (dQ x), some (dN a), e6, e7]) rfl (Xs.q ?_)
      repeat' (first | exact ct | (refine' s_for ?_ ?_ g ?_) | exact ix _ | exact q1 _ | exact q2 _ | exact q3 _ | exact q4 _ | exact q5 _ | exact v_con | exact v_nil | refine' v_var ?_ | exact Get.mk rfl | refine' v_cons ?_ ?_ | refine' v_tup ?_ | refine' v_lst ?_ | refine' v_neg ?_ ?_ | refine' v_not ?_ ?_ | refine' v_bin ?_ ?_ ?_ | refine' v_cmp ?_ ?_ ?_ | refine' v_and ?_ ?_ | refine' v_or ?_ ?_ | refine' v_ite ?_ ?_ | refine' v_chain ?_ ?_ ?_ ?_ | refine' v_bi ?_ ?_ | refine' v_idx ?_ ?_ ?_ | refine' v_isi ?_ ?_ | refine' v_slLo ?_ ?_ ?_ | refine' v_slHi ?_ ?_ ?_ | refine' v_slBo ?_ ?_ ?_ ?_ | refine' v_mjoin ?_ ?_ ?_ | refine' v_call ?_ ?_ | refine' v_callv ?_ ?_ ?_ ?_ | refine' v_err ?_ ?_ | exact Tru.mk rfl | refine' AndV.t (Tru.mk rfl) _ _ ?_ | exact AndV.f (Tru.mk rfl) | refine' OrV.f (Tru.mk rfl) _ _ ?_ | exact OrV.t (Tru.mk rfl) | refine' ChV.t (Tru.mk rfl) _ _ _ ?_ ?_ | exact ChV.f (Tru.mk rfl) | refine' IteV.t (Tru.mk rfl) ?_ | refine' IteV.f (Tru.mk rfl) ?_ | refine' IteS.t (Tru.mk rfl) ?_ | refine' IteS.f (Tru.mk rfl) ?_ | exact s_nil | exact s_raise | refine' s_ret ?_ | refine' s_asg ?_ rfl ?_ | refine' s_asg ?_ ?_ ?_ | (show VI.bindT _ _ _ = some _; rfl) | refine' s_par ?_ ?_ ?_ | refine' s_expr ?_ ?_ | refine' s_ite ?_ ?_ | refine' s_app ?_ ?_ ?_ ?_ | refine' q_nil ?_ | refine' q_ret ?_ | exact q_raise | refine' q_asg ?_ rfl ?_ | refine' q_asg ?_ ?_ ?_ | refine' q_par ?_ ?_ ?_ | refine' q_expr ?_ ?_ | refine' q_ite ?_ | exact o_add | exact o_sub | refine' o_mul ?_ | refine' o_fdiv ?_ | refine' o_mod ?_ | exact o_neg | exact o_abs | exact o_int | exact o_gcd | exact o_lenT | exact o_lenL | exact o_eqI | exact o_ltI | exact o_leI | exact o_gtI | exact o_geI | exact o_neI | (show VI.setParts _ _ _ = some _; rfl) | (show VI.isSeq _ = some _; rfl) | exact Bop.mk rfl | exact Cop.mk rfl | exact Bin.mk rfl | exact Ngd.mk rfl | exact Isd.mk rfl | exact Idx.mk rfl | exact Ctd.mk rfl | exact Jnd.mk rfl)
    obtain ⟨f4, f5, f6, f7, r⟩ := at_loop (k := k) (w := w) (e1 := e1) (e2 := e2) h hl d (a + 1) (t + x * p * noneQ (c.drop (a + 1))) (x * (1 - p)) (m1 + 180) (m2 + 5) (some (dN a)) (some (dQ (noneQ (c.drop (a + 1))))) e7' (by omega) ((plQ ht z2 (by omega)).2.mono (by omega)) (tmQ hx hc.head.one_sub.1 (by omega)).2 (by omega) (by omega)
    rw [rng_cons]
    refine ⟨f4, f5, f6, f7, bind_ok' st ?_⟩
    rw [hd, show t + x * ownQ (p :: c.drop (a + 1)) = t + x * p * noneQ (c.drop (a + 1)) + x * (1 - p) * ownQ (c.drop (a + 1)) from by show t + x * (p * noneQ (c.drop (a + 1)) + (1 - p) * ownQ (c.drop (a + 1))) = _; grind]
    exact r
abbrev stA (c : List Rat) (s : Nat) : List D := (List.range s).map fun i => dQ (ownQ (c.drop i))
theorem st_loop {k : Nat} {c : List Rat} {w : List D} (h : Chs c) (hl : c.length ≤ 14) : ∀ (d s : Nat) (e2 e3 e4 e5 e6 e7 : Option D), s + d = c.length →
    ∃ e2' e3' e4' e5' e6' e7', forL (fun d env => M.bind (liftO (bindT (.nm 2) d env)) fun env' => execs (VI.run PR (k + 4)) (etOf PR) ar fBody env') ((List.range d).map fun i => dN (s + i)) [some (dL c), some (.lst (stA c s)), e2, e3, e4, e5, e6, e7] w = .ok (.nx [some (dL c), some (.lst (stA c c.length)), e2', e3', e4', e5', e6', e7']) w
  | 0, s, e2, e3, e4, e5, e6, e7, hs => ⟨e2, e3, e4, e5, e6, e7, by rw [show c.length = s by omega]; rfl⟩
  | d + 1, s, e2, e3, e4, e5, e6, e7, hs => by
    obtain ⟨f4, f5, f6, f7, g⟩ := at_loop (k := k) (w := w) (e1 := some (.lst (stA c s))) (e2 := some (dN s)) h hl (c.length - s) s 0 1 1 1 e5 e6 e7 (by omega) sz0 sz1 (by omega) (by omega)
    rw [show (0 : Rat) + 1 * ownQ (c.drop s) = ownQ (c.drop s) from by grind] at g
    have ex : stA c (s + 1) = stA c s ++ [dQ (ownQ (c.drop s))] := by
      unfold stA
      rw [List.range_succ, List.map_append]
      rfl
    have st : M.bind (liftO (bindT (.nm 2) (dN s) [some (dL c), some (.lst (stA c s)), e2, e3, e4, e5, e6, e7])) (fun env' => execs (VI.run PR (k + 4)) (etOf PR) ar fBody env') w = .ok (.nx [some (dL c), some (.lst (stA c (s + 1))), some (dN s), some (dQ (ownQ (c.drop s))), f4, f5, f6, f7]) w := by
      rw [ex]
      refine bind_ok' (w1 := w) (a := [some (dL c), some (.lst (stA c s)), some (dN s), e3, e4, e5, e6, e7]) rfl (Xs.q ?_)
      refine s_par (ds := [dQ 0, dQ 1]) (w1 := w) (env' := [some (dL c), some (.lst (stA c s)), some (dN s), some (dQ 0), some (dQ 1), e5, e6, e7]) ?_ rfl ?_
      · repeat' (first | exact v_con | exact v_nil | refine' v_var ?_ | exact Get.mk rfl | refine' v_cons ?_ ?_ | refine' v_tup ?_ | refine' v_lst ?_ | refine' v_neg ?_ ?_ | refine' v_not ?_ ?_ | refine' v_bin ?_ ?_ ?_ | refine' v_cmp ?_ ?_ ?_ | refine' v_and ?_ ?_ | refine' v_or ?_ ?_ | refine' v_ite ?_ ?_ | refine' v_chain ?_ ?_ ?_ ?_ | refine' v_bi ?_ ?_ | refine' v_idx ?_ ?_ ?_ | refine' v_isi ?_ ?_ | refine' v_slLo ?_ ?_ ?_ | refine' v_slHi ?_ ?_ ?_ | refine' v_slBo ?_ ?_ ?_ ?_ | refine' v_mjoin ?_ ?_ ?_ | refine' v_call ?_ ?_ | refine' v_callv ?_ ?_ ?_ ?_ | refine' v_err ?_ ?_ | exact Tru.mk rfl | refine' AndV.t (Tru.mk rfl) _ _ ?_ | exact AndV.f (Tru.mk rfl) | refine' OrV.f (Tru.mk rfl) _ _ ?_ | exact OrV.t (Tru.mk rfl) | refine' ChV.t (Tru.mk rfl) _ _ _ ?_ ?_ | exact ChV.f (Tru.mk rfl) | refine' IteV.t (Tru.mk rfl) ?_ | refine' IteV.f (Tru.mk rfl) ?_ | refine' IteS.t (Tru.mk rfl) ?_ | refine' IteS.f (Tru.mk rfl) ?_ | exact s_nil | exact s_raise | refine' s_ret ?_ | refine' s_asg ?_ rfl ?_ | refine' s_asg ?_ ?_ ?_ | (show VI.bindT _ _ _ = some _; rfl) | refine' s_par ?_ ?_ ?_ | refine' s_expr ?_ ?_ | refine' s_ite ?_ ?_ | refine' s_app ?_ ?_ ?_ ?_ | refine' q_nil ?_ | refine' q_ret ?_ | exact q_raise | refine' q_asg ?_ rfl ?_ | refine' q_asg ?_ ?_ ?_ | refine' q_par ?_ ?_ ?_ | refine' q_expr ?_ ?_ | refine' q_ite ?_ | exact o_add | exact o_sub | refine' o_mul ?_ | refine' o_fdiv ?_ | refine' o_mod ?_ | exact o_neg | exact o_abs | exact o_int | exact o_gcd | exact o_lenT | exact o_lenL | exact o_eqI | exact o_ltI | exact o_leI | exact o_gtI | exact o_geI | exact o_neI | (show VI.setParts _ _ _ = some _; rfl) | (show VI.isSeq _ = some _; rfl) | exact Bop.mk rfl | exact Cop.mk rfl | exact Bin.mk rfl | exact Ngd.mk rfl | exact Isd.mk rfl | exact Idx.mk rfl | exact Ctd.mk rfl | exact Jnd.mk rfl)
      · repeat' (first | exact len_L | exact range_from (by omega) | (refine' s_for ?_ ?_ g ?_) | exact v_con | exact v_nil | refine' v_var ?_ | exact Get.mk rfl | refine' v_cons ?_ ?_ | refine' v_tup ?_ | refine' v_lst ?_ | refine' v_neg ?_ ?_ | refine' v_not ?_ ?_ | refine' v_bin ?_ ?_ ?_ | refine' v_cmp ?_ ?_ ?_ | refine' v_and ?_ ?_ | refine' v_or ?_ ?_ | refine' v_ite ?_ ?_ | refine' v_chain ?_ ?_ ?_ ?_ | refine' v_bi ?_ ?_ | refine' v_idx ?_ ?_ ?_ | refine' v_isi ?_ ?_ | refine' v_slLo ?_ ?_ ?_ | refine' v_slHi ?_ ?_ ?_ | refine' v_slBo ?_ ?_ ?_ ?_ | refine' v_mjoin ?_ ?_ ?_ | refine' v_call ?_ ?_ | refine' v_callv ?_ ?_ ?_ ?_ | refine' v_err ?_ ?_ | exact Tru.mk rfl | refine' AndV.t (Tru.mk rfl) _ _ ?_ | exact AndV.f (Tru.mk rfl) | refine' OrV.f (Tru.mk rfl) _ _ ?_ | exact OrV.t (Tru.mk rfl) | refine' ChV.t (Tru.mk rfl) _ _ _ ?_ ?_ | exact ChV.f (Tru.mk rfl) | refine' IteV.t (Tru.mk rfl) ?_ | refine' IteV.f (Tru.mk rfl) ?_ | refine' IteS.t (Tru.mk rfl) ?_ | refine' IteS.f (Tru.mk rfl) ?_ | exact s_nil | exact s_raise | refine' s_ret ?_ | refine' s_asg ?_ rfl ?_ | refine' s_asg ?_ ?_ ?_ | (show VI.bindT _ _ _ = some _; rfl) | refine' s_par ?_ ?_ ?_ | refine' s_expr ?_ ?_ | refine' s_ite ?_ ?_ | refine' s_app ?_ ?_ ?_ ?_ | refine' q_nil ?_ | refine' q_ret ?_ | exact q_raise | refine' q_asg ?_ rfl ?_ | refine' q_asg ?_ ?_ ?_ | refine' q_par ?_ ?_ ?_ | refine' q_expr ?_ ?_ | refine' q_ite ?_ | exact o_add | exact o_sub | refine' o_mul ?_ | refine' o_fdiv ?_ | refine' o_mod ?_ | exact o_neg | exact o_abs | exact o_int | exact o_gcd | exact o_lenT | exact o_lenL | exact o_eqI | exact o_ltI | exact o_leI | exact o_gtI | exact o_geI | exact o_neI | (show VI.setParts _ _ _ = some _; rfl) | (show VI.isSeq _ = some _; rfl) | exact Bop.mk rfl | exact Cop.mk rfl | exact Bin.mk rfl | exact Ngd.mk rfl | exact Isd.mk rfl | exact Idx.mk rfl | exact Ctd.mk rfl | exact Jnd.mk rfl)
        rw [show (stA c s).length = s from by unfold stA; rw [List.length_map, List.length_range]]
        exact decide_eq_true (by unfold line; omega)
    obtain ⟨a2, a3, a4, a5, a6, a7, r⟩ := st_loop (k := k) (w := w) h hl d (s + 1) (some (dN s)) (some (dQ (ownQ (c.drop s)))) f4 f5 f6 f7 (by omega)
    rw [rng_cons]
    exact ⟨a2, a3, a4, a5, a6, a7, bind_ok' st r⟩
theorem lstarts_cl {k : Nat} {c : List Rat} {w : List D} (h : Chs c) (hl : c.length ≤ 14) : Cl (VI.run PR (k + 5)) 30 [dL c] w (.ok (.lst (stA c c.length)) w) := by
  obtain ⟨a2, a3, a4, a5, a6, a7, r⟩ := st_loop (k := k) (w := w) h hl c.length 0 none none none none none none (by omega)
  have e : (List.range c.length).map (fun i => dN (0 + i)) = (List.range c.length).map dN := List.map_congr_left fun i _ => congrArg dN (Nat.zero_add i)
  rw [e] at r
  refine r_ret rfl rfl rfl ?_
  repeat' (first | exact len_L | exact range_up (by omega) | (refine' s_for ?_ ?_ r ?_) | exact v_con | exact v_nil | refine' v_var ?_ | exact Get.mk rfl | refine' v_cons ?_ ?_ | refine' v_tup ?_ | refine' v_lst ?_ | refine' v_neg ?_ ?_ | refine' v_not ?_ ?_ | refine' v_bin ?_ ?_ ?_ | refine' v_cmp ?_ ?_ ?_ | refine' v_and ?_ ?_ | refine' v_or ?_ ?_ | refine' v_ite ?_ ?_ | refine' v_chain ?_ ?_ ?_ ?_ | refine' v_bi ?_ ?_ | refine' v_idx ?_ ?_ ?_ | refine' v_isi ?_ ?_ | refine' v_slLo ?_ ?_ ?_ | refine' v_slHi ?_ ?_ ?_ | refine' v_slBo ?_ ?_ ?_ ?_ | refine' v_mjoin ?_ ?_ ?_ | refine' v_call ?_ ?_ | refine' v_callv ?_ ?_ ?_ ?_ | refine' v_err ?_ ?_ | exact Tru.mk rfl | refine' AndV.t (Tru.mk rfl) _ _ ?_ | exact AndV.f (Tru.mk rfl) | refine' OrV.f (Tru.mk rfl) _ _ ?_ | exact OrV.t (Tru.mk rfl) | refine' ChV.t (Tru.mk rfl) _ _ _ ?_ ?_ | exact ChV.f (Tru.mk rfl) | refine' IteV.t (Tru.mk rfl) ?_ | refine' IteV.f (Tru.mk rfl) ?_ | refine' IteS.t (Tru.mk rfl) ?_ | refine' IteS.f (Tru.mk rfl) ?_ | exact s_nil | exact s_raise | refine' s_ret ?_ | refine' s_asg ?_ rfl ?_ | refine' s_asg ?_ ?_ ?_ | (show VI.bindT _ _ _ = some _; rfl) | refine' s_par ?_ ?_ ?_ | refine' s_expr ?_ ?_ | refine' s_ite ?_ ?_ | refine' s_app ?_ ?_ ?_ ?_ | refine' q_nil ?_ | refine' q_ret ?_ | exact q_raise | refine' q_asg ?_ rfl ?_ | refine' q_asg ?_ ?_ ?_ | refine' q_par ?_ ?_ ?_ | refine' q_expr ?_ ?_ | refine' q_ite ?_ | exact o_add | exact o_sub | refine' o_mul ?_ | refine' o_fdiv ?_ | refine' o_mod ?_ | exact o_neg | exact o_abs | exact o_int | exact o_gcd | exact o_lenT | exact o_lenL | exact o_eqI | exact o_ltI | exact o_leI | exact o_gtI | exact o_geI | exact o_neI | (show VI.setParts _ _ _ = some _; rfl) | (show VI.isSeq _ = some _; rfl) | exact Bop.mk rfl | exact Cop.mk rfl | exact Bin.mk rfl | exact Ngd.mk rfl | exact Isd.mk rfl | exact Idx.mk rfl | exact Ctd.mk rfl | exact Jnd.mk rfl)
/-! ### the law's best -/
theorem top_sz : ∀ {l : List Rat}, Chs l → l.length ≤ 14 → Sz 624 (topQ l)
  | [], _, _ => sz0.mono (by decide)
  | p :: l, h, hl => by
    unfold topQ
    split
    · exact top_sz h.tail (by rw [List.length_cons] at hl; omega)
    · exact (own_sz h (by omega)).mono (ob14 _ (by omega))
def bBody : Ss := forB (nthS 1 f__law_best.body)
theorem lbest_cl {k : Nat} {c : List Rat} {w : List D} (h : Chs c) (hl : c.length ≤ 14) : Cl (VI.run PR (k + 5)) 31 [dL c] w (.ok (dQ (aheadQ c)) w) := by
  refine r_ret rfl rfl rfl ?_
  have hf : foldO gS c.reverse [] = some c := by rw [gS_all _ _ (by simp; omega)]; simp
  obtain ⟨env2, e2, t3, t4, rfl, _⟩ := for_fold (w := w) dQ (fun (l : List Rat) env => ∃ t3 t4, env = [some (dL c), some (dQ (noneQ l)), some (dQ (aheadQ l)), t3, t4] ∧ Chs l) (fun p l => if l.length < c.length then some (p :: l) else none) c.reverse [] [some (dL c), some (dQ 1), some (dQ 0), none, none] c ⟨_, _, rfl, (fun _ h => absurd h List.not_mem_nil)⟩ (by
      have : ∀ (xs l : List Rat), xs.length + l.length ≤ c.length → foldO (fun p (l : List Rat) => if l.length < c.length then some (p :: l) else none) xs l = some (xs.reverse ++ l) := by
        intro xs
        induction xs with
        | nil => intro l _; rfl
        | cons x xs ih =>
          intro l hh
          rw [List.length_cons] at hh
          show (if l.length < c.length then some (x :: l) else none).bind _ = _
          rw [if_pos (by omega)]
          show foldO _ xs (x :: l) = _
          rw [ih (x :: l) (by rw [List.length_cons]; omega)]
          simp
      rw [this _ _ (by simp)]
      simp) (f := fun d env => M.bind (liftO (bindT (.nm 3) d env)) fun env' => execs (VI.run PR (k + 4)) (etOf PR) ar bBody env')
    (by
      rintro p hp l env l1 ⟨t3, t4, rfl, hc⟩ hs
      have hp := h p (List.mem_reverse.mp hp)
      split at hs
      · rename_i hlen
        cases hs
        have n := (none_sz hc (by omega)).mono (m := 71) (by omega)
        have o : Sz 624 (aheadQ l) := by rw [ahead_top hc]; exact top_sz hc (by omega)
        obtain ⟨d, d1, d2, d3⟩ := ldQ n o (by decide) (by decide)
        have q := fun w => lle (k := k + 1) (w := w) d1
        have q0 := fun w => other_cl (k := k) (w := w) hp
        have tk : Sz 624 (if aheadQ l < noneQ l then noneQ l else aheadQ l) := by
          split
          · exact n.mono (by decide)
          · exact o
        have t1 := (tmQ hp.sz tk (by omega)).2
        have t2 := (tmQ hp.one_sub.1 o (by omega)).2
        have q1 := fun w => ltm (k := k + 1) (w := w) hp.sz tk (by omega)
        have q2 := fun w => ltm (k := k + 1) (w := w) hp.one_sub.1 o (by omega)
        have q3 := fun w => lpl (k := k + 1) (w := w) t1 t2 (by omega)
        have q4 := fun w => ltm (k := k + 1) (w := w) n hp.one_sub.1 (by omega)
        refine ⟨[some (dL c), some (dQ (noneQ (p :: l))), some (dQ (aheadQ (p :: l))), some (dQ p), some (dQ (if aheadQ l < noneQ l then noneQ l else aheadQ l))], bind_ok' (w1 := w) (a := [some (dL c), some (dQ (noneQ l)), some (dQ (aheadQ l)), some (dQ p), t4]) rfl (Xs.q ?_), ⟨_, _, rfl, (fun q hq => ?_)⟩⟩
        · by_cases z : aheadQ l < noneQ l
          · have cg : Cop .gt (.int d) (.int 0) true := ⟨congrArg some (decide_eq_true (d3.mpr z))⟩
            have ea : aheadQ (p :: l) = p * noneQ l + (1 - p) * aheadQ l := by show p * (if aheadQ l < noneQ l then noneQ l else aheadQ l) + (1 - p) * aheadQ l = _; rw [if_pos z]
            rw [ea]
            rw [if_pos z] at q1 q3 ⊢
            repeat' (first | exact q _ | exact cg | exact q0 _ | exact q1 _ | exact q2 _ | exact q3 _ | exact q4 _ | exact v_con | exact v_nil | refine' v_var ?_ | exact Get.mk rfl | refine' v_cons ?_ ?_ | refine' v_tup ?_ | refine' v_lst ?_ | refine' v_neg ?_ ?_ | refine' v_not ?_ ?_ | refine' v_bin ?_ ?_ ?_ | refine' v_cmp ?_ ?_ ?_ | refine' v_and ?_ ?_ | refine' v_or ?_ ?_ | refine' v_ite ?_ ?_ | refine' v_chain ?_ ?_ ?_ ?_ | refine' v_bi ?_ ?_ | refine' v_idx ?_ ?_ ?_ | refine' v_isi ?_ ?_ | refine' v_slLo ?_ ?_ ?_ | refine' v_slHi ?_ ?_ ?_ | refine' v_slBo ?_ ?_ ?_ ?_ | refine' v_mjoin ?_ ?_ ?_ | refine' v_call ?_ ?_ | refine' v_callv ?_ ?_ ?_ ?_ | refine' v_err ?_ ?_ | exact Tru.mk rfl | refine' AndV.t (Tru.mk rfl) _ _ ?_ | exact AndV.f (Tru.mk rfl) | refine' OrV.f (Tru.mk rfl) _ _ ?_ | exact OrV.t (Tru.mk rfl) | refine' ChV.t (Tru.mk rfl) _ _ _ ?_ ?_ | exact ChV.f (Tru.mk rfl) | refine' IteV.t (Tru.mk rfl) ?_ | refine' IteV.f (Tru.mk rfl) ?_ | refine' IteS.t (Tru.mk rfl) ?_ | refine' IteS.f (Tru.mk rfl) ?_ | exact s_nil | exact s_raise | refine' s_ret ?_ | refine' s_asg ?_ rfl ?_ | refine' s_asg ?_ ?_ ?_ | (show VI.bindT _ _ _ = some _; rfl) | refine' s_par ?_ ?_ ?_ | refine' s_expr ?_ ?_ | refine' s_ite ?_ ?_ | refine' s_app ?_ ?_ ?_ ?_ | refine' q_nil ?_ | refine' q_ret ?_ | exact q_raise | refine' q_asg ?_ rfl ?_ | refine' q_asg ?_ ?_ ?_ | refine' q_par ?_ ?_ ?_ | refine' q_expr ?_ ?_ | refine' q_ite ?_ | exact o_add | exact o_sub | refine' o_mul ?_ | refine' o_fdiv ?_ | refine' o_mod ?_ | exact o_neg | exact o_abs | exact o_int | exact o_gcd | exact o_lenT | exact o_lenL | exact o_eqI | exact o_ltI | exact o_leI | exact o_gtI | exact o_geI | exact o_neI | (show VI.setParts _ _ _ = some _; rfl) | (show VI.isSeq _ = some _; rfl) | exact Bop.mk rfl | exact Cop.mk rfl | exact Bin.mk rfl | exact Ngd.mk rfl | exact Isd.mk rfl | exact Idx.mk rfl | exact Ctd.mk rfl | exact Jnd.mk rfl)
          · have cg : Cop .gt (.int d) (.int 0) false := ⟨congrArg some (decide_eq_false fun h => z (d3.mp h))⟩
            have ea : aheadQ (p :: l) = p * aheadQ l + (1 - p) * aheadQ l := by show p * (if aheadQ l < noneQ l then noneQ l else aheadQ l) + (1 - p) * aheadQ l = _; rw [if_neg z]
            rw [ea]
            rw [if_neg z] at q1 q3 ⊢
            repeat' (first | exact q _ | exact cg | exact q0 _ | exact q1 _ | exact q2 _ | exact q3 _ | exact q4 _ | exact v_con | exact v_nil | refine' v_var ?_ | exact Get.mk rfl | refine' v_cons ?_ ?_ | refine' v_tup ?_ | refine' v_lst ?_ | refine' v_neg ?_ ?_ | refine' v_not ?_ ?_ | refine' v_bin ?_ ?_ ?_ | refine' v_cmp ?_ ?_ ?_ | refine' v_and ?_ ?_ | refine' v_or ?_ ?_ | refine' v_ite ?_ ?_ | refine' v_chain ?_ ?_ ?_ ?_ | refine' v_bi ?_ ?_ | refine' v_idx ?_ ?_ ?_ | refine' v_isi ?_ ?_ | refine' v_slLo ?_ ?_ ?_ | refine' v_slHi ?_ ?_ ?_ | refine' v_slBo ?_ ?_ ?_ ?_ | refine' v_mjoin ?_ ?_ ?_ | refine' v_call ?_ ?_ | refine' v_callv ?_ ?_ ?_ ?_ | refine' v_err ?_ ?_ | exact Tru.mk rfl | refine' AndV.t (Tru.mk rfl) _ _ ?_ | exact AndV.f (Tru.mk rfl) | refine' OrV.f (Tru.mk rfl) _ _ ?_ | exact OrV.t (Tru.mk rfl) | refine' ChV.t (Tru.mk rfl) _ _ _ ?_ ?_ | exact ChV.f (Tru.mk rfl) | refine' IteV.t (Tru.mk rfl) ?_ | refine' IteV.f (Tru.mk rfl) ?_ | refine' IteS.t (Tru.mk rfl) ?_ | refine' IteS.f (Tru.mk rfl) ?_ | exact s_nil | exact s_raise | refine' s_ret ?_ | refine' s_asg ?_ rfl ?_ | refine' s_asg ?_ ?_ ?_ | (show VI.bindT _ _ _ = some _; rfl) | refine' s_par ?_ ?_ ?_ | refine' s_expr ?_ ?_ | refine' s_ite ?_ ?_ | refine' s_app ?_ ?_ ?_ ?_ | refine' q_nil ?_ | refine' q_ret ?_ | exact q_raise | refine' q_asg ?_ rfl ?_ | refine' q_asg ?_ ?_ ?_ | refine' q_par ?_ ?_ ?_ | refine' q_expr ?_ ?_ | refine' q_ite ?_ | exact o_add | exact o_sub | refine' o_mul ?_ | refine' o_fdiv ?_ | refine' o_mod ?_ | exact o_neg | exact o_abs | exact o_int | exact o_gcd | exact o_lenT | exact o_lenL | exact o_eqI | exact o_ltI | exact o_leI | exact o_gtI | exact o_geI | exact o_neI | (show VI.setParts _ _ _ = some _; rfl) | (show VI.isSeq _ = some _; rfl) | exact Bop.mk rfl | exact Cop.mk rfl | exact Bin.mk rfl | exact Ngd.mk rfl | exact Isd.mk rfl | exact Idx.mk rfl | exact Ctd.mk rfl | exact Jnd.mk rfl)
        · rcases List.mem_cons.mp hq with rfl | hq
          · exact hp
          · exact hc q hq
      · cases hs)
  rw [List.map_reverse] at e2
  repeat' (first | (refine' v_rev ?_) | (refine' s_for ?_ ?_ e2 ?_) | exact v_con | exact v_nil | refine' v_var ?_ | exact Get.mk rfl | refine' v_cons ?_ ?_ | refine' v_tup ?_ | refine' v_lst ?_ | refine' v_neg ?_ ?_ | refine' v_not ?_ ?_ | refine' v_bin ?_ ?_ ?_ | refine' v_cmp ?_ ?_ ?_ | refine' v_and ?_ ?_ | refine' v_or ?_ ?_ | refine' v_ite ?_ ?_ | refine' v_chain ?_ ?_ ?_ ?_ | refine' v_bi ?_ ?_ | refine' v_idx ?_ ?_ ?_ | refine' v_isi ?_ ?_ | refine' v_slLo ?_ ?_ ?_ | refine' v_slHi ?_ ?_ ?_ | refine' v_slBo ?_ ?_ ?_ ?_ | refine' v_mjoin ?_ ?_ ?_ | refine' v_call ?_ ?_ | refine' v_callv ?_ ?_ ?_ ?_ | refine' v_err ?_ ?_ | exact Tru.mk rfl | refine' AndV.t (Tru.mk rfl) _ _ ?_ | exact AndV.f (Tru.mk rfl) | refine' OrV.f (Tru.mk rfl) _ _ ?_ | exact OrV.t (Tru.mk rfl) | refine' ChV.t (Tru.mk rfl) _ _ _ ?_ ?_ | exact ChV.f (Tru.mk rfl) | refine' IteV.t (Tru.mk rfl) ?_ | refine' IteV.f (Tru.mk rfl) ?_ | refine' IteS.t (Tru.mk rfl) ?_ | refine' IteS.f (Tru.mk rfl) ?_ | exact s_nil | exact s_raise | refine' s_ret ?_ | refine' s_asg ?_ rfl ?_ | refine' s_asg ?_ ?_ ?_ | (show VI.bindT _ _ _ = some _; rfl) | refine' s_par ?_ ?_ ?_ | refine' s_expr ?_ ?_ | refine' s_ite ?_ ?_ | refine' s_app ?_ ?_ ?_ ?_ | refine' q_nil ?_ | refine' q_ret ?_ | exact q_raise | refine' q_asg ?_ rfl ?_ | refine' q_asg ?_ ?_ ?_ | refine' q_par ?_ ?_ ?_ | refine' q_expr ?_ ?_ | refine' q_ite ?_ | exact o_add | exact o_sub | refine' o_mul ?_ | refine' o_fdiv ?_ | refine' o_mod ?_ | exact o_neg | exact o_abs | exact o_int | exact o_gcd | exact o_lenT | exact o_lenL | exact o_eqI | exact o_ltI | exact o_leI | exact o_gtI | exact o_geI | exact o_neI | (show VI.setParts _ _ _ = some _; rfl) | (show VI.isSeq _ = some _; rfl) | exact Bop.mk rfl | exact Cop.mk rfl | exact Bin.mk rfl | exact Ngd.mk rfl | exact Isd.mk rfl | exact Idx.mk rfl | exact Ctd.mk rfl | exact Jnd.mk rfl)
end K28
end
section
set_option maxRecDepth 100000
set_option maxHeartbeats 4000000
namespace K28
open PySem VI VI.Q
/-! ### all outcomes gone through -/
abbrev Rw := List Nat × Rat
abbrev dW (x : Rw) : D := .tup [dT x.1, dQ x.2]
def ext0 (p : Rat) (x : Rw) : Rw := (x.1 ++ [0], x.2 * (1 - p))
def ext1 (p : Rat) (x : Rw) : Rw := (x.1 ++ [1], x.2 * p)
def extQ (p : Rat) (rows : List Rw) : List Rw := rows.map (ext0 p) ++ rows.map (ext1 p)
def rowsQ : List Rw → List Rat → List Rw
  | rows, [] => rows
  | rows, p :: l => rowsQ (extQ p rows) l
theorem compL_W {f : D → M D} {w : List D} {g : Rw → Rw} : ∀ (l : List Rw), (∀ x ∈ l, f (dW x) w = .ok (dW (g x)) w) → compL f (l.map dW) w = .ok ((l.map g).map dW) w
  | [], _ => rfl
  | x :: l, h => bind_ok' (h x List.mem_cons_self) (bind_ok' (compL_W l fun y hy => h y (List.mem_cons_of_mem _ hy)) rfl)
theorem cat_T {r : List Nat} {v : Nat} (h : r.length ≤ 1000) : Bop .add (dT r) (.tup [dN v]) (dT (r ++ [v])) := by
  have := cat_tup (xs := r.map dN) (ys := [dN v]) (by rw [List.length_map]; show r.length + 1 ≤ 5000; omega)
  rw [show dT (r ++ [v]) = .tup (r.map dN ++ [dN v]) from congrArg D.tup (by rw [List.map_append]; rfl)]
  exact this
def wBody : Ss := forB (nthS 1 f__law_counted.body)
def uBody : Ss := forB (nthS 3 f__law_counted.body)
theorem rows_loop {k s : Nat} {c : List Rat} {w : List D} : ∀ (l : List Rat) (rows : List Rw) (m j : Nat) (e3 : Option D), Chs l → (∀ x ∈ rows, Sz m x.2 ∧ x.1.length = j) → m + 5 * l.length ≤ 7000 → j + l.length ≤ 100 → rows.length * 2 ^ l.length ≤ 1000 →
    ∃ e3', forL (fun d env => M.bind (liftO (bindT (.nm 3) d env)) fun env' => execs (VI.run PR (k + 4)) (etOf PR) ar wBody env') (l.map dQ) [some (dL c), some (dN s), some (.lst (rows.map dW)), e3, none, none, none] w = .ok (.nx [some (dL c), some (dN s), some (.lst ((rowsQ rows l).map dW)), e3', none, none, none]) w
  | [], rows, m, j, e3, _, _, _, _, _ => ⟨e3, rfl⟩
  | p :: l, rows, m, j, e3, h, hr, hm, hj, hn => by
    rw [List.length_cons] at hm hj hn
    have hp2 : rows.length ≤ 1000 := by
      have : 1 ≤ 2 ^ (l.length + 1) := Nat.one_le_two_pow
      exact Nat.le_trans (Nat.le_mul_of_pos_right _ this) hn
    have ll : (rows.map dW).length < line := by rw [List.length_map]; unfold line; omega
    have o := fun w => other_cl (k := k) (w := w) h.head
    have c0 : Ev (VI.run PR (k + 4)) (etOf PR) ar (.comp (.tup (.cons (.bin .add (.var 5) (.tup (.cons (.con (.int 0)) .nil))) (.cons (.call 26 (.cons (.var 6) (.cons (.call 29 (.cons (.var 3) .nil)) .nil))) .nil))) (.tp (.cons (.nm 5) (.cons (.nm 6) .nil))) (.var 2)) [some (dL c), some (dN s), some (.lst (rows.map dW)), some (dQ p), none, none, none] w (.ok (.lst ((rows.map (ext0 p)).map dW)) w) := by
      refine B.v_comp (s := .lst (rows.map dW)) (w1 := w) ?_ rfl ll (compL_W rows fun x hx => ?_)
      · repeat' (first | exact v_con | exact v_nil | refine' v_var ?_ | exact Get.mk rfl | refine' v_cons ?_ ?_ | refine' v_tup ?_ | refine' v_lst ?_ | refine' v_neg ?_ ?_ | refine' v_not ?_ ?_ | refine' v_bin ?_ ?_ ?_ | refine' v_cmp ?_ ?_ ?_ | refine' v_and ?_ ?_ | refine' v_or ?_ ?_ | refine' v_ite ?_ ?_ | refine' v_chain ?_ ?_ ?_ ?_ | refine' v_bi ?_ ?_ | refine' v_idx ?_ ?_ ?_ | refine' v_isi ?_ ?_ | refine' v_slLo ?_ ?_ ?_ | refine' v_slHi ?_ ?_ ?_ | refine' v_slBo ?_ ?_ ?_ ?_ | refine' v_mjoin ?_ ?_ ?_ | refine' v_call ?_ ?_ | refine' v_callv ?_ ?_ ?_ ?_ | refine' v_err ?_ ?_ | exact Tru.mk rfl | refine' AndV.t (Tru.mk rfl) _ _ ?_ | exact AndV.f (Tru.mk rfl) | refine' OrV.f (Tru.mk rfl) _ _ ?_ | exact OrV.t (Tru.mk rfl) | refine' ChV.t (Tru.mk rfl) _ _ _ ?_ ?_ | exact ChV.f (Tru.mk rfl) | refine' IteV.t (Tru.mk rfl) ?_ | refine' IteV.f (Tru.mk rfl) ?_ | refine' IteS.t (Tru.mk rfl) ?_ | refine' IteS.f (Tru.mk rfl) ?_ | exact s_nil | exact s_raise | refine' s_ret ?_ | refine' s_asg ?_ rfl ?_ | refine' s_asg ?_ ?_ ?_ | (show VI.bindT _ _ _ = some _; rfl) | refine' s_par ?_ ?_ ?_ | refine' s_expr ?_ ?_ | refine' s_ite ?_ ?_ | refine' s_app ?_ ?_ ?_ ?_ | refine' q_nil ?_ | refine' q_ret ?_ | exact q_raise | refine' q_asg ?_ rfl ?_ | refine' q_asg ?_ ?_ ?_ | refine' q_par ?_ ?_ ?_ | refine' q_expr ?_ ?_ | refine' q_ite ?_ | exact o_add | exact o_sub | refine' o_mul ?_ | refine' o_fdiv ?_ | refine' o_mod ?_ | exact o_neg | exact o_abs | exact o_int | exact o_gcd | exact o_lenT | exact o_lenL | exact o_eqI | exact o_ltI | exact o_leI | exact o_gtI | exact o_geI | exact o_neI | (show VI.setParts _ _ _ = some _; rfl) | (show VI.isSeq _ = some _; rfl) | exact Bop.mk rfl | exact Cop.mk rfl | exact Bin.mk rfl | exact Ngd.mk rfl | exact Isd.mk rfl | exact Idx.mk rfl | exact Ctd.mk rfl | exact Jnd.mk rfl)
      · obtain ⟨z, zl⟩ := hr x hx
        have t := fun w => ltm (k := k + 1) (w := w) z h.head.one_sub.1 (by omega)
        have ct : Bop .add (dT x.1) (.tup [.int 0]) (dT (x.1 ++ [0])) := cat_T (v := 0) (by omega)
        refine bind_ok' (w1 := w) (a := [some (dL c), some (dN s), some (.lst (rows.map dW)), some (dQ p), none, some (dT x.1), some (dQ x.2)]) rfl (B.calm_ok (Ev.q ?_))
        repeat' (first | exact ct | exact o _ | exact t _ | exact v_con | exact v_nil | refine' v_var ?_ | exact Get.mk rfl | refine' v_cons ?_ ?_ | refine' v_tup ?_ | refine' v_lst ?_ | refine' v_neg ?_ ?_ | refine' v_not ?_ ?_ | refine' v_bin ?_ ?_ ?_ | refine' v_cmp ?_ ?_ ?_ | refine' v_and ?_ ?_ | refine' v_or ?_ ?_ | refine' v_ite ?_ ?_ | refine' v_chain ?_ ?_ ?_ ?_ | refine' v_bi ?_ ?_ | refine' v_idx ?_ ?_ ?_ | refine' v_isi ?_ ?_ | refine' v_slLo ?_ ?_ ?_ | refine' v_slHi ?_ ?_ ?_ | refine' v_slBo ?_ ?_ ?_ ?_ | refine' v_mjoin ?_ ?_ ?_ | refine' v_call ?_ ?_ | refine' v_callv ?_ ?_ ?_ ?_ | refine' v_err ?_ ?_ | exact Tru.mk rfl | refine' AndV.t (Tru.mk rfl) _ _ ?_ | exact AndV.f (Tru.mk rfl) | refine' OrV.f (Tru.mk rfl) _ _ ?_ | exact OrV.t (Tru.mk rfl) | refine' ChV.t (Tru.mk rfl) _ _ _ ?_ ?_ | exact ChV.f (Tru.mk rfl) | refine' IteV.t (Tru.mk rfl) ?_ | refine' IteV.f (Tru.mk rfl) ?_ | refine' IteS.t (Tru.mk rfl) ?_ | refine' IteS.f (Tru.mk rfl) ?_ | exact s_nil | exact s_raise | refine' s_ret ?_ | refine' s_asg ?_ rfl ?_ | refine' s_asg ?_ ?_ ?_ | (show VI.bindT _ _ _ = some _; rfl) | refine' s_par ?_ ?_ ?_ | refine' s_expr ?_ ?_ | refine' s_ite ?_ ?_ | refine' s_app ?_ ?_ ?_ ?_ | refine' q_nil ?_ | refine' q_ret ?_ | exact q_raise | refine' q_asg ?_ rfl ?_ | refine' q_asg ?_ ?_ ?_ | refine' q_par ?_ ?_ ?_ | refine' q_expr ?_ ?_ | refine' q_ite ?_ | exact o_add | exact o_sub | refine' o_mul ?_ | refine' o_fdiv ?_ | refine' o_mod ?_ | exact o_neg | exact o_abs | exact o_int | exact o_gcd | exact o_lenT | exact o_lenL | exact o_eqI | exact o_ltI | exact o_leI | exact o_gtI | exact o_geI | exact o_neI | (show VI.setParts _ _ _ = some _; rfl) | (show VI.isSeq _ = some _; rfl) | exact Bop.mk rfl | exact Cop.mk rfl | exact Bin.mk rfl | exact Ngd.mk rfl | exact Isd.mk rfl | exact Idx.mk rfl | exact Ctd.mk rfl | exact Jnd.mk rfl)
    have c1 : Ev (VI.run PR (k + 4)) (etOf PR) ar (.comp (.tup (.cons (.bin .add (.var 5) (.tup (.cons (.con (.int 1)) .nil))) (.cons (.call 26 (.cons (.var 6) (.cons (.var 3) .nil))) .nil))) (.tp (.cons (.nm 5) (.cons (.nm 6) .nil))) (.var 2)) [some (dL c), some (dN s), some (.lst (rows.map dW)), some (dQ p), none, none, none] w (.ok (.lst ((rows.map (ext1 p)).map dW)) w) := by
      refine B.v_comp (s := .lst (rows.map dW)) (w1 := w) ?_ rfl ll (compL_W rows fun x hx => ?_)
      · repeat' (first | exact v_con | exact v_nil | refine' v_var ?_ | exact Get.mk rfl | refine' v_cons ?_ ?_ | refine' v_tup ?_ | refine' v_lst ?_ | refine' v_neg ?_ ?_ | refine' v_not ?_ ?_ | refine' v_bin ?_ ?_ ?_ | refine' v_cmp ?_ ?_ ?_ | refine' v_and ?_ ?_ | refine' v_or ?_ ?_ | refine' v_ite ?_ ?_ | refine' v_chain ?_ ?_ ?_ ?_ | refine' v_bi ?_ ?_ | refine' v_idx ?_ ?_ ?_ | refine' v_isi ?_ ?_ | refine' v_slLo ?_ ?_ ?_ | refine' v_slHi ?_ ?_ ?_ | refine' v_slBo ?_ ?_ ?_ ?_ | refine' v_mjoin ?_ ?_ ?_ | refine' v_call ?_ ?_ | refine' v_callv ?_ ?_ ?_ ?_ | refine' v_err ?_ ?_ | exact Tru.mk rfl | refine' AndV.t (Tru.mk rfl) _ _ ?_ | exact AndV.f (Tru.mk rfl) | refine' OrV.f (Tru.mk rfl) _ _ ?_ | exact OrV.t (Tru.mk rfl) | refine' ChV.t (Tru.mk rfl) _ _ _ ?_ ?_ | exact ChV.f (Tru.mk rfl) | refine' IteV.t (Tru.mk rfl) ?_ | refine' IteV.f (Tru.mk rfl) ?_ | refine' IteS.t (Tru.mk rfl) ?_ | refine' IteS.f (Tru.mk rfl) ?_ | exact s_nil | exact s_raise | refine' s_ret ?_ | refine' s_asg ?_ rfl ?_ | refine' s_asg ?_ ?_ ?_ | (show VI.bindT _ _ _ = some _; rfl) | refine' s_par ?_ ?_ ?_ | refine' s_expr ?_ ?_ | refine' s_ite ?_ ?_ | refine' s_app ?_ ?_ ?_ ?_ | refine' q_nil ?_ | refine' q_ret ?_ | exact q_raise | refine' q_asg ?_ rfl ?_ | refine' q_asg ?_ ?_ ?_ | refine' q_par ?_ ?_ ?_ | refine' q_expr ?_ ?_ | refine' q_ite ?_ | exact o_add | exact o_sub | refine' o_mul ?_ | refine' o_fdiv ?_ | refine' o_mod ?_ | exact o_neg | exact o_abs | exact o_int | exact o_gcd | exact o_lenT | exact o_lenL | exact o_eqI | exact o_ltI | exact o_leI | exact o_gtI | exact o_geI | exact o_neI | (show VI.setParts _ _ _ = some _; rfl) | (show VI.isSeq _ = some _; rfl) | exact Bop.mk rfl | exact Cop.mk rfl | exact Bin.mk rfl | exact Ngd.mk rfl | exact Isd.mk rfl | exact Idx.mk rfl | exact Ctd.mk rfl | exact Jnd.mk rfl)
      · obtain ⟨z, zl⟩ := hr x hx
        have t := fun w => ltm (k := k + 1) (w := w) z h.head.sz (by omega)
        have ct : Bop .add (dT x.1) (.tup [.int 1]) (dT (x.1 ++ [1])) := cat_T (v := 1) (by omega)
        refine bind_ok' (w1 := w) (a := [some (dL c), some (dN s), some (.lst (rows.map dW)), some (dQ p), none, some (dT x.1), some (dQ x.2)]) rfl (B.calm_ok (Ev.q ?_))
        repeat' (first | exact ct | exact t _ | exact v_con | exact v_nil | refine' v_var ?_ | exact Get.mk rfl | refine' v_cons ?_ ?_ | refine' v_tup ?_ | refine' v_lst ?_ | refine' v_neg ?_ ?_ | refine' v_not ?_ ?_ | refine' v_bin ?_ ?_ ?_ | refine' v_cmp ?_ ?_ ?_ | refine' v_and ?_ ?_ | refine' v_or ?_ ?_ | refine' v_ite ?_ ?_ | refine' v_chain ?_ ?_ ?_ ?_ | refine' v_bi ?_ ?_ | refine' v_idx ?_ ?_ ?_ | refine' v_isi ?_ ?_ | refine' v_slLo ?_ ?_ ?_ | refine' v_slHi ?_ ?_ ?_ | refine' v_slBo ?_ ?_ ?_ ?_ | refine' v_mjoin ?_ ?_ ?_ | refine' v_call ?_ ?_ | refine' v_callv ?_ ?_ ?_ ?_ | refine' v_err ?_ ?_ | exact Tru.mk rfl | refine' AndV.t (Tru.mk rfl) _ _ ?_ | exact AndV.f (Tru.mk rfl) | refine' OrV.f (Tru.mk rfl) _ _ ?_ | exact OrV.t (Tru.mk rfl) | refine' ChV.t (Tru.mk rfl) _ _ _ ?_ ?_ | exact ChV.f (Tru.mk rfl) | refine' IteV.t (Tru.mk rfl) ?_ | refine' IteV.f (Tru.mk rfl) ?_ | refine' IteS.t (Tru.mk rfl) ?_ | refine' IteS.f (Tru.mk rfl) ?_ | exact s_nil | exact s_raise | refine' s_ret ?_ | refine' s_asg ?_ rfl ?_ | refine' s_asg ?_ ?_ ?_ | (show VI.bindT _ _ _ = some _; rfl) | refine' s_par ?_ ?_ ?_ | refine' s_expr ?_ ?_ | refine' s_ite ?_ ?_ | refine' s_app ?_ ?_ ?_ ?_ | refine' q_nil ?_ | refine' q_ret ?_ | exact q_raise | refine' q_asg ?_ rfl ?_ | refine' q_asg ?_ ?_ ?_ | refine' q_par ?_ ?_ ?_ | refine' q_expr ?_ ?_ | refine' q_ite ?_ | exact o_add | exact o_sub | refine' o_mul ?_ | refine' o_fdiv ?_ | refine' o_mod ?_ | exact o_neg | exact o_abs | exact o_int | exact o_gcd | exact o_lenT | exact o_lenL | exact o_eqI | exact o_ltI | exact o_leI | exact o_gtI | exact o_geI | exact o_neI | (show VI.setParts _ _ _ = some _; rfl) | (show VI.isSeq _ = some _; rfl) | exact Bop.mk rfl | exact Cop.mk rfl | exact Bin.mk rfl | exact Ngd.mk rfl | exact Isd.mk rfl | exact Idx.mk rfl | exact Ctd.mk rfl | exact Jnd.mk rfl)
    have cat : Bop .add (.lst ((rows.map (ext0 p)).map dW)) (.lst ((rows.map (ext1 p)).map dW)) (.lst ((extQ p rows).map dW)) := ⟨by
      show (if ((rows.map (ext0 p)).map dW).length + ((rows.map (ext1 p)).map dW).length ≤ line then some (D.lst ((rows.map (ext0 p)).map dW ++ (rows.map (ext1 p)).map dW)) else none) = _
      rw [if_pos (by rw [List.length_map, List.length_map, List.length_map, List.length_map]; unfold line; omega), ← List.map_append]
      rfl⟩
    have st : M.bind (liftO (bindT (.nm 3) (dQ p) [some (dL c), some (dN s), some (.lst (rows.map dW)), e3, none, none, none])) (fun env' => execs (VI.run PR (k + 4)) (etOf PR) ar wBody env') w = .ok (.nx [some (dL c), some (dN s), some (.lst ((extQ p rows).map dW)), some (dQ p), none, none, none]) w := by
      refine bind_ok' (w1 := w) (a := [some (dL c), some (dN s), some (.lst (rows.map dW)), some (dQ p), none, none, none]) rfl (Xs.q ?_)
      repeat' (first | exact c0 | exact c1 | exact cat | exact v_con | exact v_nil | refine' v_var ?_ | exact Get.mk rfl | refine' v_cons ?_ ?_ | refine' v_tup ?_ | refine' v_lst ?_ | refine' v_neg ?_ ?_ | refine' v_not ?_ ?_ | refine' v_bin ?_ ?_ ?_ | refine' v_cmp ?_ ?_ ?_ | refine' v_and ?_ ?_ | refine' v_or ?_ ?_ | refine' v_ite ?_ ?_ | refine' v_chain ?_ ?_ ?_ ?_ | refine' v_bi ?_ ?_ | refine' v_idx ?_ ?_ ?_ | refine' v_isi ?_ ?_ | refine' v_slLo ?_ ?_ ?_ | refine' v_slHi ?_ ?_ ?_ | refine' v_slBo ?_ ?_ ?_ ?_ | refine' v_mjoin ?_ ?_ ?_ | refine' v_call ?_ ?_ | refine' v_callv ?_ ?_ ?_ ?_ | refine' v_err ?_ ?_ | exact Tru.mk rfl | refine' AndV.t (Tru.mk rfl) _ _ ?_ | exact AndV.f (Tru.mk rfl) | refine' OrV.f (Tru.mk rfl) _ _ ?_ | exact OrV.t (Tru.mk rfl) | refine' ChV.t (Tru.mk rfl) _ _ _ ?_ ?_ | exact ChV.f (Tru.mk rfl) | refine' IteV.t (Tru.mk rfl) ?_ | refine' IteV.f (Tru.mk rfl) ?_ | refine' IteS.t (Tru.mk rfl) ?_ | refine' IteS.f (Tru.mk rfl) ?_ | exact s_nil | exact s_raise | refine' s_ret ?_ | refine' s_asg ?_ rfl ?_ | refine' s_asg ?_ ?_ ?_ | (show VI.bindT _ _ _ = some _; rfl) | refine' s_par ?_ ?_ ?_ | refine' s_expr ?_ ?_ | refine' s_ite ?_ ?_ | refine' s_app ?_ ?_ ?_ ?_ | refine' q_nil ?_ | refine' q_ret ?_ | exact q_raise | refine' q_asg ?_ rfl ?_ | refine' q_asg ?_ ?_ ?_ | refine' q_par ?_ ?_ ?_ | refine' q_expr ?_ ?_ | refine' q_ite ?_ | exact o_add | exact o_sub | refine' o_mul ?_ | refine' o_fdiv ?_ | refine' o_mod ?_ | exact o_neg | exact o_abs | exact o_int | exact o_gcd | exact o_lenT | exact o_lenL | exact o_eqI | exact o_ltI | exact o_leI | exact o_gtI | exact o_geI | exact o_neI | (show VI.setParts _ _ _ = some _; rfl) | (show VI.isSeq _ = some _; rfl) | exact Bop.mk rfl | exact Cop.mk rfl | exact Bin.mk rfl | exact Ngd.mk rfl | exact Isd.mk rfl | exact Idx.mk rfl | exact Ctd.mk rfl | exact Jnd.mk rfl)
    obtain ⟨e3', g⟩ := rows_loop (k := k) (s := s) (c := c) (w := w) l (extQ p rows) (m + 5) (j + 1) (some (dQ p)) h.tail (fun x hx => by
      rcases List.mem_append.mp hx with hx | hx
      · obtain ⟨y, hy, rfl⟩ := List.mem_map.mp hx
        exact ⟨(tmQ (hr y hy).1 h.head.one_sub.1 (by omega)).2, by show (y.1 ++ [0]).length = j + 1; rw [List.length_append, (hr y hy).2]; rfl⟩
      · obtain ⟨y, hy, rfl⟩ := List.mem_map.mp hx
        exact ⟨(tmQ (hr y hy).1 h.head.sz (by omega)).2, by show (y.1 ++ [1]).length = j + 1; rw [List.length_append, (hr y hy).2]; rfl⟩) (by omega) (by omega) (by
      unfold extQ
      rw [List.length_append, List.length_map, List.length_map]
      rw [Nat.pow_succ] at hn
      have : (rows.length + rows.length) * 2 ^ l.length = rows.length * (2 ^ l.length * 2) := by grind
      omega)
    exact ⟨e3', bind_ok' st g⟩
/-! the sum of the weights -/
def sW (s k : Nat) : List Rw → Rat
  | [] => 0
  | x :: t => (if (x.1.drop s).sum = k then x.2 else 0) + sW s k t
theorem sW_app (s k : Nat) : ∀ a b : List Rw, sW s k (a ++ b) = sW s k a + sW s k b
  | [], b => by show sW s k b = 0 + sW s k b; grind
  | x :: a, b => by
    show _ + sW s k (a ++ b) = _ + sW s k a + sW s k b
    rw [sW_app s k a b]
    grind
theorem sW_map {s k k2 : Nat} {g : Rw → Rw} {q : Rat} : ∀ (l : List Rw), (∀ x ∈ l, (g x).2 = x.2 * q ∧ (((g x).1.drop s).sum = k ↔ (x.1.drop s).sum = k2)) → sW s k (l.map g) = sW s k2 l * q
  | [], _ => by show (0 : Rat) = 0 * q; grind
  | x :: l, h => by
    obtain ⟨a, b⟩ := h x List.mem_cons_self
    show (if ((g x).1.drop s).sum = k then (g x).2 else 0) + sW s k (l.map g) = ((if (x.1.drop s).sum = k2 then x.2 else 0) + sW s k2 l) * q
    rw [sW_map l fun y hy => h y (List.mem_cons_of_mem _ hy), a]
    by_cases z : (x.1.drop s).sum = k2
    · rw [if_pos z, if_pos (b.mpr z)]; grind
    · rw [if_neg z, if_neg fun y => z (b.mp y)]; grind
theorem sW_none {s k : Nat} {g : Rw → Rw} : ∀ (l : List Rw), (∀ x ∈ l, ((g x).1.drop s).sum ≠ k) → sW s k (l.map g) = 0
  | [], _ => rfl
  | x :: l, h => by
    show (if ((g x).1.drop s).sum = k then (g x).2 else 0) + sW s k (l.map g) = 0
    rw [if_neg (h x List.mem_cons_self), sW_none l fun y hy => h y (List.mem_cons_of_mem _ hy)]
    grind
theorem drop_app {r : List Nat} {v s : Nat} (h : s ≤ r.length) : ((r ++ [v]).drop s).sum = (r.drop s).sum + v := by
  rw [List.drop_append_of_le_length h, List.sum_append]
  simp
theorem drop_all {r : List Nat} {s : Nat} (h : r.length ≤ s) : (r.drop s).sum = 0 := by
  rw [List.drop_eq_nil_of_le h]; rfl
theorem ext_sums {s j : Nat} {p : Rat} {rows : List Rw} (hr : ∀ x ∈ rows, x.1.length = j) :
    (s ≤ j → sW s 1 (extQ p rows) = sW s 1 rows * (1 - p) + sW s 0 rows * p ∧ sW s 0 (extQ p rows) = sW s 0 rows * (1 - p)) ∧
    (j < s → sW s 1 (extQ p rows) = 0 ∧ sW s 0 (extQ p rows) = sW s 0 rows) := by
  refine ⟨fun h => ?_, fun h => ?_⟩
  · have d : ∀ x ∈ rows, ∀ v, ((x.1 ++ [v]).drop s).sum = (x.1.drop s).sum + v := fun x hx v => drop_app (by rw [hr x hx]; exact h)
    unfold extQ
    rw [sW_app, sW_app]
    rw [sW_map (k2 := 1) (q := 1 - p) rows fun x hx => ⟨rfl, by show ((x.1 ++ [0]).drop s).sum = 1 ↔ _; rw [d x hx]; omega⟩]
    rw [sW_map (k := 1) (k2 := 0) (q := p) (g := ext1 p) rows fun x hx => ⟨rfl, by show ((x.1 ++ [1]).drop s).sum = 1 ↔ _; rw [d x hx]; omega⟩]
    rw [sW_map (k := 0) (k2 := 0) (q := 1 - p) rows fun x hx => ⟨rfl, by show ((x.1 ++ [0]).drop s).sum = 0 ↔ _; rw [d x hx]; omega⟩]
    rw [sW_none (k := 0) (g := ext1 p) rows fun x hx => by show ((x.1 ++ [1]).drop s).sum ≠ 0; rw [d x hx]; omega]
    constructor <;> grind
  · have d : ∀ x ∈ rows, ∀ v, ((x.1 ++ [v]).drop s).sum = 0 := fun x hx v => drop_all (by rw [List.length_append, hr x hx]; show j + 1 ≤ s; omega)
    have d0 : ∀ x ∈ rows, (x.1.drop s).sum = 0 := fun x hx => drop_all (by rw [hr x hx]; omega)
    unfold extQ
    rw [sW_app, sW_app]
    rw [sW_none (k := 1) (g := ext0 p) rows fun x hx => by show ((x.1 ++ [0]).drop s).sum ≠ 1; rw [d x hx]; decide]
    rw [sW_none (k := 1) (g := ext1 p) rows fun x hx => by show ((x.1 ++ [1]).drop s).sum ≠ 1; rw [d x hx]; decide]
    rw [sW_map (k := 0) (k2 := 0) (q := 1 - p) (g := ext0 p) rows fun x hx => ⟨rfl, by show ((x.1 ++ [0]).drop s).sum = 0 ↔ _; rw [d x hx, d0 x hx]⟩]
    rw [sW_map (k := 0) (k2 := 0) (q := p) (g := ext1 p) rows fun x hx => ⟨rfl, by show ((x.1 ++ [1]).drop s).sum = 0 ↔ _; rw [d x hx, d0 x hx]⟩]
    constructor <;> grind
theorem ext_len {j : Nat} {p : Rat} {rows : List Rw} (hr : ∀ x ∈ rows, x.1.length = j) : ∀ x ∈ extQ p rows, x.1.length = j + 1 := by
  intro x hx
  rcases List.mem_append.mp hx with hx | hx
  · obtain ⟨y, hy, rfl⟩ := List.mem_map.mp hx
    show (y.1 ++ [0]).length = j + 1
    rw [List.length_append, hr y hy]; rfl
  · obtain ⟨y, hy, rfl⟩ := List.mem_map.mp hx
    show (y.1 ++ [1]).length = j + 1
    rw [List.length_append, hr y hy]; rfl
theorem rows_own {s : Nat} : ∀ (l : List Rat) (rows : List Rw) (j : Nat), (∀ x ∈ rows, x.1.length = j) → s ≤ j + l.length →
    (s ≤ j → sW s 1 (rowsQ rows l) = sW s 1 rows * noneQ l + sW s 0 rows * ownQ l) ∧ (j < s → sW s 1 (rowsQ rows l) = sW s 0 rows * ownQ (l.drop (s - j)))
  | [], rows, j, hr, hs => by
    refine ⟨fun h => ?_, fun h => ?_⟩
    · show sW s 1 rows = sW s 1 rows * 1 + sW s 0 rows * 0
      grind
    · have : s ≤ j + 0 := hs
      omega
  | p :: l, rows, j, hr, hs => by
    rw [List.length_cons] at hs
    obtain ⟨a, b⟩ := ext_sums (s := s) (p := p) hr
    obtain ⟨c, d⟩ := rows_own (s := s) l (extQ p rows) (j + 1) (ext_len hr) (by omega)
    refine ⟨fun h => ?_, fun h => ?_⟩
    · obtain ⟨a1, a2⟩ := a h
      show sW s 1 (rowsQ (extQ p rows) l) = sW s 1 rows * (noneQ l * (1 - p)) + sW s 0 rows * (p * noneQ l + (1 - p) * ownQ l)
      rw [c (by omega), a1, a2]
      grind
    · obtain ⟨b1, b2⟩ := b h
      show sW s 1 (rowsQ (extQ p rows) l) = _
      obtain ⟨i, hi⟩ : ∃ i, s - j = i + 1 := ⟨s - j - 1, by omega⟩
      rw [hi]
      show _ = sW s 0 rows * ownQ (l.drop i)
      by_cases z : s ≤ j + 1
      · rw [c z, b1, b2, show i = 0 by omega]
        show _ = sW s 0 rows * ownQ l
        grind
      · rw [d (by omega), b2, show s - (j + 1) = i by omega]
theorem sum_int : ∀ r : List Nat, (r.map fun a : Nat => (a : Int)).sum = (r.sum : Nat)
  | [] => rfl
  | a :: r => by
    rw [List.map_cons, List.sum_cons, List.sum_cons, sum_int r]
    omega
theorem sum_T {r : List Nat} : Bin .sum [dT r] (dN r.sum) := ⟨by
  show (intsD (r.map dN)).map (fun is => D.int is.sum) = _
  rw [show r.map dN = (r.map fun a : Nat => (a : Int)).map D.int by rw [List.map_map]; rfl, intsD_ints]
  show some (D.int ((r.map fun a : Nat => (a : Int)).sum)) = _
  rw [sum_int]⟩
theorem cut_T {l : List Nat} {s : Nat} (h : s ≤ l.length) : Ctd (dT l) (some (s : Int)) none (dT (l.drop s)) := ⟨by
  show some (D.tup (cut (l.map dN) (some (s : Int)) none)) = _
  refine congrArg (fun l => some (D.tup l)) ?_
  unfold cut
  have e1 : sIx (l.map dN).length 0 (some (s : Int)) = s := by
    show (if (s : Int) < 0 then ((s : Int) + (l.map dN).length).toNat else min (s : Int).toNat (l.map dN).length) = s
    rw [if_neg (by omega), Int.toNat_natCast, List.length_map]
    omega
  have e2 : sIx (l.map dN).length (l.map dN).length none = (l.map dN).length := rfl
  rw [e1, e2, List.map_drop, List.take_of_length_le (by rw [List.length_drop]; omega)]⟩
theorem sum_loop {k s : Nat} {w : List D} {e0 e2 e3 : Option D} : ∀ (rows : List Rw) (t : Rat) (m : Nat) (e5 e6 : Option D), (∀ x ∈ rows, Sz 40 x.2 ∧ s ≤ x.1.length) → Sz m t → m + 41 * rows.length ≤ 7000 →
    ∃ e5' e6', forL (fun d env => M.bind (liftO (bindT (.tp (.cons (.nm 5) (.cons (.nm 6) .nil))) d env)) fun env' => execs (VI.run PR (k + 4)) (etOf PR) ar uBody env') (rows.map dW) [e0, some (dN s), e2, e3, some (dQ t), e5, e6] w = .ok (.nx [e0, some (dN s), e2, e3, some (dQ (t + sW s 1 rows)), e5', e6']) w
  | [], t, m, e5, e6, _, _, _ => ⟨e5, e6, by rw [show t + sW s 1 [] = t from by show t + 0 = t; grind]; rfl⟩
  | x :: rows, t, m, e5, e6, hr, ht, hm => by
    rw [List.length_cons] at hm
    obtain ⟨z, zl⟩ := hr x List.mem_cons_self
    have ct := cut_T (l := x.1) (s := s) zl
    have sm := sum_T (r := x.1.drop s)
    have q := fun w => lpl (k := k + 1) (w := w) ht z (by omega)
    by_cases y : (x.1.drop s).sum = 1
    · have ce : Cop .eq (dN (x.1.drop s).sum) (.int 1) true := ⟨congrArg some (decide_eq_true (by omega))⟩
      have st : M.bind (liftO (bindT (.tp (.cons (.nm 5) (.cons (.nm 6) .nil))) (dW x) [e0, some (dN s), e2, e3, some (dQ t), e5, e6])) (fun env' => execs (VI.run PR (k + 4)) (etOf PR) ar uBody env') w = .ok (.nx [e0, some (dN s), e2, e3, some (dQ (t + x.2)), some (dT x.1), some (dQ x.2)]) w := by
        refine bind_ok' (w1 := w) (a := [e0, some (dN s), e2, e3, some (dQ t), some (dT x.1), some (dQ x.2)]) rfl (Xs.q ?_)
        repeat' (first | exact ct | exact sm | exact ce | exact q _ | exact v_con | exact v_nil | refine' v_var ?_ | exact Get.mk rfl | refine' v_cons ?_ ?_ | refine' v_tup ?_ | refine' v_lst ?_ | refine' v_neg ?_ ?_ | refine' v_not ?_ ?_ | refine' v_bin ?_ ?_ ?_ | refine' v_cmp ?_ ?_ ?_ | refine' v_and ?_ ?_ | refine' v_or ?_ ?_ | refine' v_ite ?_ ?_ | refine' v_chain ?_ ?_ ?_ ?_ | refine' v_bi ?_ ?_ | refine' v_idx ?_ ?_ ?_ | refine' v_isi ?_ ?_ | refine' v_slLo ?_ ?_ ?_ | refine' v_slHi ?_ ?_ ?_ | refine' v_slBo ?_ ?_ ?_ ?_ | refine' v_mjoin ?_ ?_ ?_ | refine' v_call ?_ ?_ | refine' v_callv ?_ ?_ ?_ ?_ | refine' v_err ?_ ?_ | exact Tru.mk rfl | refine' AndV.t (Tru.mk rfl) _ _ ?_ | exact AndV.f (Tru.mk rfl) | refine' OrV.f (Tru.mk rfl) _ _ ?_ | exact OrV.t (Tru.mk rfl) | refine' ChV.t (Tru.mk rfl) _ _ _ ?_ ?_ | exact ChV.f (Tru.mk rfl) | refine' IteV.t (Tru.mk rfl) ?_ | refine' IteV.f (Tru.mk rfl) ?_ | refine' IteS.t (Tru.mk rfl) ?_ | refine' IteS.f (Tru.mk rfl) ?_ | exact s_nil | exact s_raise | refine' s_ret ?_ | refine' s_asg ?_ rfl ?_ | refine' s_asg ?_ ?_ ?_ | (show VI.bindT _ _ _ = some _; rfl) | refine' s_par ?_ ?_ ?_ | refine' s_expr ?_ ?_ | refine' s_ite ?_ ?_ | refine' s_app ?_ ?_ ?_ ?_ | refine' q_nil ?_ | refine' q_ret ?_ | exact q_raise | refine' q_asg ?_ rfl ?_ | refine' q_asg ?_ ?_ ?_ | refine' q_par ?_ ?_ ?_ | refine' q_expr ?_ ?_ | refine' q_ite ?_ | exact o_add | exact o_sub | refine' o_mul ?_ | refine' o_fdiv ?_ | refine' o_mod ?_ | exact o_neg | exact o_abs | exact o_int | exact o_gcd | exact o_lenT | exact o_lenL | exact o_eqI | exact o_ltI | exact o_leI | exact o_gtI | exact o_geI | exact o_neI | (show VI.setParts _ _ _ = some _; rfl) | (show VI.isSeq _ = some _; rfl) | exact Bop.mk rfl | exact Cop.mk rfl | exact Bin.mk rfl | exact Ngd.mk rfl | exact Isd.mk rfl | exact Idx.mk rfl | exact Ctd.mk rfl | exact Jnd.mk rfl)
      obtain ⟨f5, f6, g⟩ := sum_loop (k := k) (w := w) (e0 := e0) (e2 := e2) (e3 := e3) rows (t + x.2) (m + 41) (some (dT x.1)) (some (dQ x.2)) (fun v hv => hr v (List.mem_cons_of_mem _ hv)) ((plQ ht z (by omega)).2.mono (by omega)) (by omega)
      refine ⟨f5, f6, bind_ok' st ?_⟩
      rw [show t + sW s 1 (x :: rows) = t + x.2 + sW s 1 rows from by show t + ((if (x.1.drop s).sum = 1 then x.2 else 0) + sW s 1 rows) = _; rw [if_pos y]; grind]
      exact g
    · have ce : Cop .eq (dN (x.1.drop s).sum) (.int 1) false := ⟨congrArg some (decide_eq_false (by omega))⟩
      have st : M.bind (liftO (bindT (.tp (.cons (.nm 5) (.cons (.nm 6) .nil))) (dW x) [e0, some (dN s), e2, e3, some (dQ t), e5, e6])) (fun env' => execs (VI.run PR (k + 4)) (etOf PR) ar uBody env') w = .ok (.nx [e0, some (dN s), e2, e3, some (dQ t), some (dT x.1), some (dQ x.2)]) w := by
        refine bind_ok' (w1 := w) (a := [e0, some (dN s), e2, e3, some (dQ t), some (dT x.1), some (dQ x.2)]) rfl (Xs.q ?_)
        repeat' (first | exact ct | exact sm | exact ce | exact v_con | exact v_nil | refine' v_var ?_ | exact Get.mk rfl | refine' v_cons ?_ ?_ | refine' v_tup ?_ | refine' v_lst ?_ | refine' v_neg ?_ ?_ | refine' v_not ?_ ?_ | refine' v_bin ?_ ?_ ?_ | refine' v_cmp ?_ ?_ ?_ | refine' v_and ?_ ?_ | refine' v_or ?_ ?_ | refine' v_ite ?_ ?_ | refine' v_chain ?_ ?_ ?_ ?_ | refine' v_bi ?_ ?_ | refine' v_idx ?_ ?_ ?_ | refine' v_isi ?_ ?_ | refine' v_slLo ?_ ?_ ?_ | refine' v_slHi ?_ ?_ ?_ | refine' v_slBo ?_ ?_ ?_ ?_ | refine' v_mjoin ?_ ?_ ?_ | refine' v_call ?_ ?_ | refine' v_callv ?_ ?_ ?_ ?_ | refine' v_err ?_ ?_ | exact Tru.mk rfl | refine' AndV.t (Tru.mk rfl) _ _ ?_ | exact AndV.f (Tru.mk rfl) | refine' OrV.f (Tru.mk rfl) _ _ ?_ | exact OrV.t (Tru.mk rfl) | refine' ChV.t (Tru.mk rfl) _ _ _ ?_ ?_ | exact ChV.f (Tru.mk rfl) | refine' IteV.t (Tru.mk rfl) ?_ | refine' IteV.f (Tru.mk rfl) ?_ | refine' IteS.t (Tru.mk rfl) ?_ | refine' IteS.f (Tru.mk rfl) ?_ | exact s_nil | exact s_raise | refine' s_ret ?_ | refine' s_asg ?_ rfl ?_ | refine' s_asg ?_ ?_ ?_ | (show VI.bindT _ _ _ = some _; rfl) | refine' s_par ?_ ?_ ?_ | refine' s_expr ?_ ?_ | refine' s_ite ?_ ?_ | refine' s_app ?_ ?_ ?_ ?_ | refine' q_nil ?_ | refine' q_ret ?_ | exact q_raise | refine' q_asg ?_ rfl ?_ | refine' q_asg ?_ ?_ ?_ | refine' q_par ?_ ?_ ?_ | refine' q_expr ?_ ?_ | refine' q_ite ?_ | exact o_add | exact o_sub | refine' o_mul ?_ | refine' o_fdiv ?_ | refine' o_mod ?_ | exact o_neg | exact o_abs | exact o_int | exact o_gcd | exact o_lenT | exact o_lenL | exact o_eqI | exact o_ltI | exact o_leI | exact o_gtI | exact o_geI | exact o_neI | (show VI.setParts _ _ _ = some _; rfl) | (show VI.isSeq _ = some _; rfl) | exact Bop.mk rfl | exact Cop.mk rfl | exact Bin.mk rfl | exact Ngd.mk rfl | exact Isd.mk rfl | exact Idx.mk rfl | exact Ctd.mk rfl | exact Jnd.mk rfl)
      obtain ⟨f5, f6, g⟩ := sum_loop (k := k) (w := w) (e0 := e0) (e2 := e2) (e3 := e3) rows t m (some (dT x.1)) (some (dQ x.2)) (fun v hv => hr v (List.mem_cons_of_mem _ hv)) ht (by omega)
      refine ⟨f5, f6, bind_ok' st ?_⟩
      rw [show t + sW s 1 (x :: rows) = t + sW s 1 rows from by show t + ((if (x.1.drop s).sum = 1 then x.2 else 0) + sW s 1 rows) = _; rw [if_neg y]; grind]
      exact g
theorem rows_all : ∀ (l : List Rat) (rows : List Rw) (m j : Nat), Chs l → (∀ x ∈ rows, Sz m x.2 ∧ x.1.length = j) → m + 5 * l.length ≤ 7000 → (∀ x ∈ rowsQ rows l, Sz (m + 5 * l.length) x.2 ∧ x.1.length = j + l.length) ∧ (rowsQ rows l).length = rows.length * 2 ^ l.length
  | [], rows, m, j, _, hr, _ => ⟨hr, by show rows.length = rows.length * 1; omega⟩
  | p :: l, rows, m, j, h, hr, hm => by
    rw [List.length_cons] at hm ⊢
    obtain ⟨a, b⟩ := rows_all l (extQ p rows) (m + 5) (j + 1) h.tail (fun x hx => by
      rcases List.mem_append.mp hx with hx' | hx'
      · obtain ⟨y, hy, rfl⟩ := List.mem_map.mp hx'
        exact ⟨(tmQ (hr y hy).1 h.head.one_sub.1 (by omega)).2, ext_len (fun z hz => (hr z hz).2) _ hx⟩
      · obtain ⟨y, hy, rfl⟩ := List.mem_map.mp hx'
        exact ⟨(tmQ (hr y hy).1 h.head.sz (by omega)).2, ext_len (fun z hz => (hr z hz).2) _ hx⟩) (by omega)
    refine ⟨fun x hx => ?_, ?_⟩
    · obtain ⟨u, v⟩ := a x hx
      exact ⟨u.mono (by omega), by omega⟩
    · show (rowsQ (extQ p rows) l).length = _
      rw [b]
      unfold extQ
      rw [List.length_append, List.length_map, List.length_map, Nat.pow_succ]
      grind
theorem counted_cl {k s : Nat} {c : List Rat} {w : List D} (h : Chs c) (hl : c.length < 7) (hs : s ≤ c.length) : Cl (VI.run PR (k + 5)) 32 [dL c, dN s] w (.ok (dQ (ownQ (c.drop s))) w) := by
  have p2 : 2 ^ c.length ≤ 64 := by
    have := Nat.pow_le_pow_right (n := 2) (by decide) (show c.length ≤ 6 by omega)
    exact this
  obtain ⟨e3, g⟩ := rows_loop (k := k) (s := s) (c := c) (w := w) c [([], 1)] 1 0 none h (fun x hx => by rw [List.mem_singleton.mp hx]; exact ⟨sz1, rfl⟩) (by omega) (by omega) (by show 1 * 2 ^ c.length ≤ 1000; omega)
  obtain ⟨a, b⟩ := rows_all c [([], 1)] 1 0 h (fun x hx => by rw [List.mem_singleton.mp hx]; exact ⟨sz1, rfl⟩) (by omega)
  obtain ⟨e5, e6, r⟩ := sum_loop (k := k) (s := s) (w := w) (e0 := some (dL c)) (e2 := some (.lst ((rowsQ [([], 1)] c).map dW))) (e3 := e3) (rowsQ [([], 1)] c) 0 1 none none (fun x hx => ⟨(a x hx).1.mono (by omega), by rw [(a x hx).2]; omega⟩) sz0 (by rw [b]; show 1 + 41 * (1 * 2 ^ c.length) ≤ 7000; omega)
  have e : sW s 1 (rowsQ [([], 1)] c) = ownQ (c.drop s) := by
    obtain ⟨u, v⟩ := rows_own (s := s) c [([], 1)] 0 (fun x hx => by rw [List.mem_singleton.mp hx]; rfl) (by omega)
    have z1 : sW s 0 [([], 1)] = 1 := by
      show (if (([] : List Nat).drop s).sum = 0 then (1 : Rat) else 0) + 0 = 1
      rw [drop_all (by simp), if_pos rfl]
      grind
    have z2 : sW s 1 [([], 1)] = 0 := by
      show (if (([] : List Nat).drop s).sum = 1 then (1 : Rat) else 0) + 0 = 0
      rw [drop_all (by simp), if_neg (by decide)]
      grind
    by_cases q : s ≤ 0
    · have : s = 0 := by omega
      subst this
      rw [u (Nat.le_refl _), z1, z2]
      show 0 * noneQ c + 1 * ownQ c = ownQ c
      grind
    · rw [v (by omega), z1]
      show 1 * ownQ (c.drop (s - 0)) = _
      rw [Nat.sub_zero]
      grind
  rw [e, show (0 : Rat) + ownQ (c.drop s) = ownQ (c.drop s) from by grind] at r
  refine r_ret rfl rfl rfl ?_
  refine s_asg (w1 := w) (d := .lst ([([], 1)].map dW)) ?_ rfl ?_
  · repeat' (first | exact v_con | exact v_nil | refine' v_var ?_ | exact Get.mk rfl | refine' v_cons ?_ ?_ | refine' v_tup ?_ | refine' v_lst ?_ | refine' v_neg ?_ ?_ | refine' v_not ?_ ?_ | refine' v_bin ?_ ?_ ?_ | refine' v_cmp ?_ ?_ ?_ | refine' v_and ?_ ?_ | refine' v_or ?_ ?_ | refine' v_ite ?_ ?_ | refine' v_chain ?_ ?_ ?_ ?_ | refine' v_bi ?_ ?_ | refine' v_idx ?_ ?_ ?_ | refine' v_isi ?_ ?_ | refine' v_slLo ?_ ?_ ?_ | refine' v_slHi ?_ ?_ ?_ | refine' v_slBo ?_ ?_ ?_ ?_ | refine' v_mjoin ?_ ?_ ?_ | refine' v_call ?_ ?_ | refine' v_callv ?_ ?_ ?_ ?_ | refine' v_err ?_ ?_ | exact Tru.mk rfl | refine' AndV.t (Tru.mk rfl) _ _ ?_ | exact AndV.f (Tru.mk rfl) | refine' OrV.f (Tru.mk rfl) _ _ ?_ | exact OrV.t (Tru.mk rfl) | refine' ChV.t (Tru.mk rfl) _ _ _ ?_ ?_ | exact ChV.f (Tru.mk rfl) | refine' IteV.t (Tru.mk rfl) ?_ | refine' IteV.f (Tru.mk rfl) ?_ | refine' IteS.t (Tru.mk rfl) ?_ | refine' IteS.f (Tru.mk rfl) ?_ | exact s_nil | exact s_raise | refine' s_ret ?_ | refine' s_asg ?_ rfl ?_ | refine' s_asg ?_ ?_ ?_ | (show VI.bindT _ _ _ = some _; rfl) | refine' s_par ?_ ?_ ?_ | refine' s_expr ?_ ?_ | refine' s_ite ?_ ?_ | refine' s_app ?_ ?_ ?_ ?_ | refine' q_nil ?_ | refine' q_ret ?_ | exact q_raise | refine' q_asg ?_ rfl ?_ | refine' q_asg ?_ ?_ ?_ | refine' q_par ?_ ?_ ?_ | refine' q_expr ?_ ?_ | refine' q_ite ?_ | exact o_add | exact o_sub | refine' o_mul ?_ | refine' o_fdiv ?_ | refine' o_mod ?_ | exact o_neg | exact o_abs | exact o_int | exact o_gcd | exact o_lenT | exact o_lenL | exact o_eqI | exact o_ltI | exact o_leI | exact o_gtI | exact o_geI | exact o_neI | (show VI.setParts _ _ _ = some _; rfl) | (show VI.isSeq _ = some _; rfl) | exact Bop.mk rfl | exact Cop.mk rfl | exact Bin.mk rfl | exact Ngd.mk rfl | exact Isd.mk rfl | exact Idx.mk rfl | exact Ctd.mk rfl | exact Jnd.mk rfl)
  refine s_for (d := dL c) (w1 := w) ?_ rfl g ?_
  · repeat' (first | exact v_con | exact v_nil | refine' v_var ?_ | exact Get.mk rfl | refine' v_cons ?_ ?_ | refine' v_tup ?_ | refine' v_lst ?_ | refine' v_neg ?_ ?_ | refine' v_not ?_ ?_ | refine' v_bin ?_ ?_ ?_ | refine' v_cmp ?_ ?_ ?_ | refine' v_and ?_ ?_ | refine' v_or ?_ ?_ | refine' v_ite ?_ ?_ | refine' v_chain ?_ ?_ ?_ ?_ | refine' v_bi ?_ ?_ | refine' v_idx ?_ ?_ ?_ | refine' v_isi ?_ ?_ | refine' v_slLo ?_ ?_ ?_ | refine' v_slHi ?_ ?_ ?_ | refine' v_slBo ?_ ?_ ?_ ?_ | refine' v_mjoin ?_ ?_ ?_ | refine' v_call ?_ ?_ | refine' v_callv ?_ ?_ ?_ ?_ | refine' v_err ?_ ?_ | exact Tru.mk rfl | refine' AndV.t (Tru.mk rfl) _ _ ?_ | exact AndV.f (Tru.mk rfl) | refine' OrV.f (Tru.mk rfl) _ _ ?_ | exact OrV.t (Tru.mk rfl) | refine' ChV.t (Tru.mk rfl) _ _ _ ?_ ?_ | exact ChV.f (Tru.mk rfl) | refine' IteV.t (Tru.mk rfl) ?_ | refine' IteV.f (Tru.mk rfl) ?_ | refine' IteS.t (Tru.mk rfl) ?_ | refine' IteS.f (Tru.mk rfl) ?_ | exact s_nil | exact s_raise | refine' s_ret ?_ | refine' s_asg ?_ rfl ?_ | refine' s_asg ?_ ?_ ?_ | (show VI.bindT _ _ _ = some _; rfl) | refine' s_par ?_ ?_ ?_ | refine' s_expr ?_ ?_ | refine' s_ite ?_ ?_ | refine' s_app ?_ ?_ ?_ ?_ | refine' q_nil ?_ | refine' q_ret ?_ | exact q_raise | refine' q_asg ?_ rfl ?_ | refine' q_asg ?_ ?_ ?_ | refine' q_par ?_ ?_ ?_ | refine' q_expr ?_ ?_ | refine' q_ite ?_ | exact o_add | exact o_sub | refine' o_mul ?_ | refine' o_fdiv ?_ | refine' o_mod ?_ | exact o_neg | exact o_abs | exact o_int | exact o_gcd | exact o_lenT | exact o_lenL | exact o_eqI | exact o_ltI | exact o_leI | exact o_gtI | exact o_geI | exact o_neI | (show VI.setParts _ _ _ = some _; rfl) | (show VI.isSeq _ = some _; rfl) | exact Bop.mk rfl | exact Cop.mk rfl | exact Bin.mk rfl | exact Ngd.mk rfl | exact Isd.mk rfl | exact Idx.mk rfl | exact Ctd.mk rfl | exact Jnd.mk rfl)
  refine s_asg (w1 := w) (d := dQ 0) ?_ rfl ?_
  · repeat' (first | exact v_con | exact v_nil | refine' v_var ?_ | exact Get.mk rfl | refine' v_cons ?_ ?_ | refine' v_tup ?_ | refine' v_lst ?_ | refine' v_neg ?_ ?_ | refine' v_not ?_ ?_ | refine' v_bin ?_ ?_ ?_ | refine' v_cmp ?_ ?_ ?_ | refine' v_and ?_ ?_ | refine' v_or ?_ ?_ | refine' v_ite ?_ ?_ | refine' v_chain ?_ ?_ ?_ ?_ | refine' v_bi ?_ ?_ | refine' v_idx ?_ ?_ ?_ | refine' v_isi ?_ ?_ | refine' v_slLo ?_ ?_ ?_ | refine' v_slHi ?_ ?_ ?_ | refine' v_slBo ?_ ?_ ?_ ?_ | refine' v_mjoin ?_ ?_ ?_ | refine' v_call ?_ ?_ | refine' v_callv ?_ ?_ ?_ ?_ | refine' v_err ?_ ?_ | exact Tru.mk rfl | refine' AndV.t (Tru.mk rfl) _ _ ?_ | exact AndV.f (Tru.mk rfl) | refine' OrV.f (Tru.mk rfl) _ _ ?_ | exact OrV.t (Tru.mk rfl) | refine' ChV.t (Tru.mk rfl) _ _ _ ?_ ?_ | exact ChV.f (Tru.mk rfl) | refine' IteV.t (Tru.mk rfl) ?_ | refine' IteV.f (Tru.mk rfl) ?_ | refine' IteS.t (Tru.mk rfl) ?_ | refine' IteS.f (Tru.mk rfl) ?_ | exact s_nil | exact s_raise | refine' s_ret ?_ | refine' s_asg ?_ rfl ?_ | refine' s_asg ?_ ?_ ?_ | (show VI.bindT _ _ _ = some _; rfl) | refine' s_par ?_ ?_ ?_ | refine' s_expr ?_ ?_ | refine' s_ite ?_ ?_ | refine' s_app ?_ ?_ ?_ ?_ | refine' q_nil ?_ | refine' q_ret ?_ | exact q_raise | refine' q_asg ?_ rfl ?_ | refine' q_asg ?_ ?_ ?_ | refine' q_par ?_ ?_ ?_ | refine' q_expr ?_ ?_ | refine' q_ite ?_ | exact o_add | exact o_sub | refine' o_mul ?_ | refine' o_fdiv ?_ | refine' o_mod ?_ | exact o_neg | exact o_abs | exact o_int | exact o_gcd | exact o_lenT | exact o_lenL | exact o_eqI | exact o_ltI | exact o_leI | exact o_gtI | exact o_geI | exact o_neI | (show VI.setParts _ _ _ = some _; rfl) | (show VI.isSeq _ = some _; rfl) | exact Bop.mk rfl | exact Cop.mk rfl | exact Bin.mk rfl | exact Ngd.mk rfl | exact Isd.mk rfl | exact Idx.mk rfl | exact Ctd.mk rfl | exact Jnd.mk rfl)
  refine s_for (d := .lst ((rowsQ [([], 1)] c).map dW)) (w1 := w) ?_ rfl r ?_
  · repeat' (first | exact v_con | exact v_nil | refine' v_var ?_ | exact Get.mk rfl | refine' v_cons ?_ ?_ | refine' v_tup ?_ | refine' v_lst ?_ | refine' v_neg ?_ ?_ | refine' v_not ?_ ?_ | refine' v_bin ?_ ?_ ?_ | refine' v_cmp ?_ ?_ ?_ | refine' v_and ?_ ?_ | refine' v_or ?_ ?_ | refine' v_ite ?_ ?_ | refine' v_chain ?_ ?_ ?_ ?_ | refine' v_bi ?_ ?_ | refine' v_idx ?_ ?_ ?_ | refine' v_isi ?_ ?_ | refine' v_slLo ?_ ?_ ?_ | refine' v_slHi ?_ ?_ ?_ | refine' v_slBo ?_ ?_ ?_ ?_ | refine' v_mjoin ?_ ?_ ?_ | refine' v_call ?_ ?_ | refine' v_callv ?_ ?_ ?_ ?_ | refine' v_err ?_ ?_ | exact Tru.mk rfl | refine' AndV.t (Tru.mk rfl) _ _ ?_ | exact AndV.f (Tru.mk rfl) | refine' OrV.f (Tru.mk rfl) _ _ ?_ | exact OrV.t (Tru.mk rfl) | refine' ChV.t (Tru.mk rfl) _ _ _ ?_ ?_ | exact ChV.f (Tru.mk rfl) | refine' IteV.t (Tru.mk rfl) ?_ | refine' IteV.f (Tru.mk rfl) ?_ | refine' IteS.t (Tru.mk rfl) ?_ | refine' IteS.f (Tru.mk rfl) ?_ | exact s_nil | exact s_raise | refine' s_ret ?_ | refine' s_asg ?_ rfl ?_ | refine' s_asg ?_ ?_ ?_ | (show VI.bindT _ _ _ = some _; rfl) | refine' s_par ?_ ?_ ?_ | refine' s_expr ?_ ?_ | refine' s_ite ?_ ?_ | refine' s_app ?_ ?_ ?_ ?_ | refine' q_nil ?_ | refine' q_ret ?_ | exact q_raise | refine' q_asg ?_ rfl ?_ | refine' q_asg ?_ ?_ ?_ | refine' q_par ?_ ?_ ?_ | refine' q_expr ?_ ?_ | refine' q_ite ?_ | exact o_add | exact o_sub | refine' o_mul ?_ | refine' o_fdiv ?_ | refine' o_mod ?_ | exact o_neg | exact o_abs | exact o_int | exact o_gcd | exact o_lenT | exact o_lenL | exact o_eqI | exact o_ltI | exact o_leI | exact o_gtI | exact o_geI | exact o_neI | (show VI.setParts _ _ _ = some _; rfl) | (show VI.isSeq _ = some _; rfl) | exact Bop.mk rfl | exact Cop.mk rfl | exact Bin.mk rfl | exact Ngd.mk rfl | exact Isd.mk rfl | exact Idx.mk rfl | exact Ctd.mk rfl | exact Jnd.mk rfl)
  repeat' (first | exact v_con | exact v_nil | refine' v_var ?_ | exact Get.mk rfl | refine' v_cons ?_ ?_ | refine' v_tup ?_ | refine' v_lst ?_ | refine' v_neg ?_ ?_ | refine' v_not ?_ ?_ | refine' v_bin ?_ ?_ ?_ | refine' v_cmp ?_ ?_ ?_ | refine' v_and ?_ ?_ | refine' v_or ?_ ?_ | refine' v_ite ?_ ?_ | refine' v_chain ?_ ?_ ?_ ?_ | refine' v_bi ?_ ?_ | refine' v_idx ?_ ?_ ?_ | refine' v_isi ?_ ?_ | refine' v_slLo ?_ ?_ ?_ | refine' v_slHi ?_ ?_ ?_ | refine' v_slBo ?_ ?_ ?_ ?_ | refine' v_mjoin ?_ ?_ ?_ | refine' v_call ?_ ?_ | refine' v_callv ?_ ?_ ?_ ?_ | refine' v_err ?_ ?_ | exact Tru.mk rfl | refine' AndV.t (Tru.mk rfl) _ _ ?_ | exact AndV.f (Tru.mk rfl) | refine' OrV.f (Tru.mk rfl) _ _ ?_ | exact OrV.t (Tru.mk rfl) | refine' ChV.t (Tru.mk rfl) _ _ _ ?_ ?_ | exact ChV.f (Tru.mk rfl) | refine' IteV.t (Tru.mk rfl) ?_ | refine' IteV.f (Tru.mk rfl) ?_ | refine' IteS.t (Tru.mk rfl) ?_ | refine' IteS.f (Tru.mk rfl) ?_ | exact s_nil | exact s_raise | refine' s_ret ?_ | refine' s_asg ?_ rfl ?_ | refine' s_asg ?_ ?_ ?_ | (show VI.bindT _ _ _ = some _; rfl) | refine' s_par ?_ ?_ ?_ | refine' s_expr ?_ ?_ | refine' s_ite ?_ ?_ | refine' s_app ?_ ?_ ?_ ?_ | refine' q_nil ?_ | refine' q_ret ?_ | exact q_raise | refine' q_asg ?_ rfl ?_ | refine' q_asg ?_ ?_ ?_ | refine' q_par ?_ ?_ ?_ | refine' q_expr ?_ ?_ | refine' q_ite ?_ | exact o_add | exact o_sub | refine' o_mul ?_ | refine' o_fdiv ?_ | refine' o_mod ?_ | exact o_neg | exact o_abs | exact o_int | exact o_gcd | exact o_lenT | exact o_lenL | exact o_eqI | exact o_ltI | exact o_leI | exact o_gtI | exact o_geI | exact o_neI | (show VI.setParts _ _ _ = some _; rfl) | (show VI.isSeq _ = some _; rfl) | exact Bop.mk rfl | exact Cop.mk rfl | exact Bin.mk rfl | exact Ngd.mk rfl | exact Isd.mk rfl | exact Idx.mk rfl | exact Ctd.mk rfl | exact Jnd.mk rfl)
end K28
end
section
set_option maxRecDepth 100000
set_option maxHeartbeats 8000000
namespace K28
open PySem VI VI.Q
theorem rollN {k : Nat} {w : List D} {m : Nat} (hw : B.Cup w) (h0 : 0 < m) (hm : m < 1000) : ∃ (r : Nat) (w' : List D), Cl (VI.run PR (k + 1)) 19 [.cup, dN m] w (.ok (dN r) w') ∧ r < m ∧ B.Cup w' := by
  obtain ⟨r, w', e, a, b, c⟩ := B.roll_cl (P := PR) (ir := 19) (k := k) (m := (m : Int)) rfl hw (by omega) (by omega)
  obtain ⟨i, rfl⟩ := Int.eq_ofNat_of_zero_le a
  exact ⟨i, w', e, by omega, c⟩
/-! ### drawn chances -/
theorem frac_ok {t o : Nat} (h1 : 1 ≤ o) (h2 : o ≤ 30) (ht : t ≤ o) : Chn (((t : Int) : Rat) / ((o : Int) : Rat)) := by
  have q := (lowQ (t := (t : Int)) (b := (o : Int)) (n := 5) (by omega) (by omega) (by omega) (by omega)).1
  have z := low_size q (by omega)
  have o0 : (0 : Rat) < (o : Rat) := Rat.natCast_pos.mpr (by omega)
  have t0 : (0 : Rat) ≤ (t : Rat) := Rat.natCast_nonneg
  have to : (t : Rat) ≤ (o : Rat) := Rat.natCast_le_natCast.mpr ht
  have inv : (0 : Rat) < (o : Rat)⁻¹ := Rat.inv_pos.mpr o0
  rw [Rat.intCast_natCast, Rat.intCast_natCast] at *
  refine ⟨?_, ?_, ?_⟩
  · rw [Rat.div_def]
    exact Rat.mul_nonneg t0 (Rat.le_of_lt inv)
  · have := Rat.mul_le_mul_of_nonneg_right to (Rat.le_of_lt inv)
    have e : (o : Rat) * (o : Rat)⁻¹ = 1 := by grind
    rw [e] at this
    rw [Rat.div_def]
    exact this
  · have := z.2
    rw [show (fr ((t : Rat) / (o : Rat))).2.natAbs = ((t : Rat) / (o : Rat)).den from Int.natAbs_natCast _] at this
    omega
def hBody : Ss := forB (nthS 1 f__law_chances.body)
theorem chances_loop {k long b : Nat} (b1 : 1 ≤ b) (b2 : b ≤ 30) : ∀ (d j : Nat) (acc : List Rat) (w : List D) (e4 e5 : Option D), B.Cup w → acc.length + d ≤ 100 →
    ∃ (c : List Rat) (w' : List D) (e4' e5' : Option D), forL (fun d env => M.bind (liftO (bindT (.nm 4) d env)) fun env' => execs (VI.run PR (k + 3)) (etOf PR) ar hBody env') ((List.range d).map fun i => dN (j + i)) [some .cup, some (dN long), some (dN b), some (.lst (acc.map dQ)), e4, e5] w = .ok (.nx [some .cup, some (dN long), some (dN b), some (.lst ((acc ++ c).map dQ)), e4', e5']) w' ∧ c.length = d ∧ Chs c ∧ B.Cup w'
  | 0, j, acc, w, e4, e5, hw, _ => ⟨[], w, e4, e5, by rw [List.append_nil]; rfl, rfl, fun _ h => absurd h List.not_mem_nil, hw⟩
  | d + 1, j, acc, w, e4, e5, hw, hl => by
    obtain ⟨r1, w1, x1, l1, c1⟩ := rollN (k := k + 2) (m := b) hw (by omega) (by omega)
    obtain ⟨o, ho⟩ : ∃ o, o = r1 + 1 := ⟨_, rfl⟩
    obtain ⟨r2, w2, x2, l2, c2⟩ := rollN (k := k + 2) (m := o + 1) c1 (by omega) (by omega)
    have a1 : Bop .add (.int 1) (.int r1) (dN o) := ⟨by
      show some (D.int (1 + (r1 : Int))) = some (D.int (o : Int))
      exact congrArg (fun z => some (D.int z)) (by omega)⟩
    have a2 : Bop .add (dN o) (.int 1) (dN (o + 1)) := ⟨rfl⟩
    have q := fun w => llo (k := k) (w := w) (t := (r2 : Int)) (b := (o : Int)) (n := 5) (by omega) (by omega) (by omega) (by omega)
    have ch := frac_ok (t := r2) (o := o) (by omega) (by omega) (by omega)
    generalize hx : ((r2 : Int) : Rat) / ((o : Int) : Rat) = x at *
    have st : M.bind (liftO (bindT (.nm 4) (dN j) [some .cup, some (dN long), some (dN b), some (.lst (acc.map dQ)), e4, e5])) (fun env' => execs (VI.run PR (k + 3)) (etOf PR) ar hBody env') w = .ok (.nx [some .cup, some (dN long), some (dN b), some (.lst ((acc ++ [x]).map dQ)), some (dN j), some (dN o)]) w2 := by
      rw [List.map_append]
      refine bind_ok' (w1 := w) (a := [some .cup, some (dN long), some (dN b), some (.lst (acc.map dQ)), some (dN j), e5]) rfl (Xs.q ?_)
      repeat' (first | exact x1 | exact a1 | exact a2 | exact x2 | exact q _ | exact v_con | exact v_nil | refine' v_var ?_ | exact Get.mk rfl | refine' v_cons ?_ ?_ | refine' v_tup ?_ | refine' v_lst ?_ | refine' v_neg ?_ ?_ | refine' v_not ?_ ?_ | refine' v_bin ?_ ?_ ?_ | refine' v_cmp ?_ ?_ ?_ | refine' v_and ?_ ?_ | refine' v_or ?_ ?_ | refine' v_ite ?_ ?_ | refine' v_chain ?_ ?_ ?_ ?_ | refine' v_bi ?_ ?_ | refine' v_idx ?_ ?_ ?_ | refine' v_isi ?_ ?_ | refine' v_slLo ?_ ?_ ?_ | refine' v_slHi ?_ ?_ ?_ | refine' v_slBo ?_ ?_ ?_ ?_ | refine' v_mjoin ?_ ?_ ?_ | refine' v_call ?_ ?_ | refine' v_callv ?_ ?_ ?_ ?_ | refine' v_err ?_ ?_ | exact Tru.mk rfl | refine' AndV.t (Tru.mk rfl) _ _ ?_ | exact AndV.f (Tru.mk rfl) | refine' OrV.f (Tru.mk rfl) _ _ ?_ | exact OrV.t (Tru.mk rfl) | refine' ChV.t (Tru.mk rfl) _ _ _ ?_ ?_ | exact ChV.f (Tru.mk rfl) | refine' IteV.t (Tru.mk rfl) ?_ | refine' IteV.f (Tru.mk rfl) ?_ | refine' IteS.t (Tru.mk rfl) ?_ | refine' IteS.f (Tru.mk rfl) ?_ | exact s_nil | exact s_raise | refine' s_ret ?_ | refine' s_asg ?_ rfl ?_ | refine' s_asg ?_ ?_ ?_ | (show VI.bindT _ _ _ = some _; rfl) | refine' s_par ?_ ?_ ?_ | refine' s_expr ?_ ?_ | refine' s_ite ?_ ?_ | refine' s_app ?_ ?_ ?_ ?_ | refine' q_nil ?_ | refine' q_ret ?_ | exact q_raise | refine' q_asg ?_ rfl ?_ | refine' q_asg ?_ ?_ ?_ | refine' q_par ?_ ?_ ?_ | refine' q_expr ?_ ?_ | refine' q_ite ?_ | exact o_add | exact o_sub | refine' o_mul ?_ | refine' o_fdiv ?_ | refine' o_mod ?_ | exact o_neg | exact o_abs | exact o_int | exact o_gcd | exact o_lenT | exact o_lenL | exact o_eqI | exact o_ltI | exact o_leI | exact o_gtI | exact o_geI | exact o_neI | (show VI.setParts _ _ _ = some _; rfl) | (show VI.isSeq _ = some _; rfl) | exact Bop.mk rfl | exact Cop.mk rfl | exact Bin.mk rfl | exact Ngd.mk rfl | exact Isd.mk rfl | exact Idx.mk rfl | exact Ctd.mk rfl | exact Jnd.mk rfl)
      rw [List.length_map]
      exact decide_eq_true (by unfold line; omega)
    obtain ⟨c, w3, f4, f5, g, g1, g2, g3⟩ := chances_loop (k := k) (long := long) b1 b2 d (j + 1) (acc ++ [x]) w2 (some (dN j)) (some (dN o)) c2 (by rw [List.length_append]; show acc.length + 1 + d ≤ 100; omega)
    rw [rng_cons]
    refine ⟨x :: c, w3, f4, f5, bind_ok' st ?_, by rw [List.length_cons, g1], fun y hy => ?_, g3⟩
    · rw [show acc ++ x :: c = acc ++ [x] ++ c by simp]
      exact g
    · rcases List.mem_cons.mp hy with rfl | hy
      · exact ch
      · exact g2 y hy
theorem chances_cl {k long b : Nat} {w : List D} (b1 : 1 ≤ b) (b2 : b ≤ 30) (hl : long ≤ 40) (hw : B.Cup w) : ∃ (c : List Rat) (w' : List D), Cl (VI.run PR (k + 4)) 28 [.cup, dN long, dN b] w (.ok (dL c) w') ∧ c.length = long ∧ Chs c ∧ B.Cup w' := by
  obtain ⟨c, w', e4, e5, g, g1, g2, g3⟩ := chances_loop (k := k) (long := long) b1 b2 long 0 [] w none none hw (by simp; omega)
  have e : (List.range long).map (fun i => dN (0 + i)) = (List.range long).map dN := List.map_congr_left fun i _ => congrArg dN (Nat.zero_add i)
  rw [e, List.nil_append] at g
  have tp : Bin .tuple [.lst (c.map dQ)] (dL c) := ⟨rfl⟩
  refine ⟨c, w', r_ret rfl rfl rfl ?_, g1, g2, g3⟩
  refine s_asg (w1 := w) (d := .lst []) ?_ rfl ?_
  · repeat' (first | exact v_con | exact v_nil | refine' v_var ?_ | exact Get.mk rfl | refine' v_cons ?_ ?_ | refine' v_tup ?_ | refine' v_lst ?_ | refine' v_neg ?_ ?_ | refine' v_not ?_ ?_ | refine' v_bin ?_ ?_ ?_ | refine' v_cmp ?_ ?_ ?_ | refine' v_and ?_ ?_ | refine' v_or ?_ ?_ | refine' v_ite ?_ ?_ | refine' v_chain ?_ ?_ ?_ ?_ | refine' v_bi ?_ ?_ | refine' v_idx ?_ ?_ ?_ | refine' v_isi ?_ ?_ | refine' v_slLo ?_ ?_ ?_ | refine' v_slHi ?_ ?_ ?_ | refine' v_slBo ?_ ?_ ?_ ?_ | refine' v_mjoin ?_ ?_ ?_ | refine' v_call ?_ ?_ | refine' v_callv ?_ ?_ ?_ ?_ | refine' v_err ?_ ?_ | exact Tru.mk rfl | refine' AndV.t (Tru.mk rfl) _ _ ?_ | exact AndV.f (Tru.mk rfl) | refine' OrV.f (Tru.mk rfl) _ _ ?_ | exact OrV.t (Tru.mk rfl) | refine' ChV.t (Tru.mk rfl) _ _ _ ?_ ?_ | exact ChV.f (Tru.mk rfl) | refine' IteV.t (Tru.mk rfl) ?_ | refine' IteV.f (Tru.mk rfl) ?_ | refine' IteS.t (Tru.mk rfl) ?_ | refine' IteS.f (Tru.mk rfl) ?_ | exact s_nil | exact s_raise | refine' s_ret ?_ | refine' s_asg ?_ rfl ?_ | refine' s_asg ?_ ?_ ?_ | (show VI.bindT _ _ _ = some _; rfl) | refine' s_par ?_ ?_ ?_ | refine' s_expr ?_ ?_ | refine' s_ite ?_ ?_ | refine' s_app ?_ ?_ ?_ ?_ | refine' q_nil ?_ | refine' q_ret ?_ | exact q_raise | refine' q_asg ?_ rfl ?_ | refine' q_asg ?_ ?_ ?_ | refine' q_par ?_ ?_ ?_ | refine' q_expr ?_ ?_ | refine' q_ite ?_ | exact o_add | exact o_sub | refine' o_mul ?_ | refine' o_fdiv ?_ | refine' o_mod ?_ | exact o_neg | exact o_abs | exact o_int | exact o_gcd | exact o_lenT | exact o_lenL | exact o_eqI | exact o_ltI | exact o_leI | exact o_gtI | exact o_geI | exact o_neI | (show VI.setParts _ _ _ = some _; rfl) | (show VI.isSeq _ = some _; rfl) | exact Bop.mk rfl | exact Cop.mk rfl | exact Bin.mk rfl | exact Ngd.mk rfl | exact Isd.mk rfl | exact Idx.mk rfl | exact Ctd.mk rfl | exact Jnd.mk rfl)
  repeat' (first | exact range_up (by omega) | (refine' s_for ?_ ?_ g ?_) | exact tp | exact v_con | exact v_nil | refine' v_var ?_ | exact Get.mk rfl | refine' v_cons ?_ ?_ | refine' v_tup ?_ | refine' v_lst ?_ | refine' v_neg ?_ ?_ | refine' v_not ?_ ?_ | refine' v_bin ?_ ?_ ?_ | refine' v_cmp ?_ ?_ ?_ | refine' v_and ?_ ?_ | refine' v_or ?_ ?_ | refine' v_ite ?_ ?_ | refine' v_chain ?_ ?_ ?_ ?_ | refine' v_bi ?_ ?_ | refine' v_idx ?_ ?_ ?_ | refine' v_isi ?_ ?_ | refine' v_slLo ?_ ?_ ?_ | refine' v_slHi ?_ ?_ ?_ | refine' v_slBo ?_ ?_ ?_ ?_ | refine' v_mjoin ?_ ?_ ?_ | refine' v_call ?_ ?_ | refine' v_callv ?_ ?_ ?_ ?_ | refine' v_err ?_ ?_ | exact Tru.mk rfl | refine' AndV.t (Tru.mk rfl) _ _ ?_ | exact AndV.f (Tru.mk rfl) | refine' OrV.f (Tru.mk rfl) _ _ ?_ | exact OrV.t (Tru.mk rfl) | refine' ChV.t (Tru.mk rfl) _ _ _ ?_ ?_ | exact ChV.f (Tru.mk rfl) | refine' IteV.t (Tru.mk rfl) ?_ | refine' IteV.f (Tru.mk rfl) ?_ | refine' IteS.t (Tru.mk rfl) ?_ | refine' IteS.f (Tru.mk rfl) ?_ | exact s_nil | exact s_raise | refine' s_ret ?_ | refine' s_asg ?_ rfl ?_ | refine' s_asg ?_ ?_ ?_ | (show VI.bindT _ _ _ = some _; rfl) | refine' s_par ?_ ?_ ?_ | refine' s_expr ?_ ?_ | refine' s_ite ?_ ?_ | refine' s_app ?_ ?_ ?_ ?_ | refine' q_nil ?_ | refine' q_ret ?_ | exact q_raise | refine' q_asg ?_ rfl ?_ | refine' q_asg ?_ ?_ ?_ | refine' q_par ?_ ?_ ?_ | refine' q_expr ?_ ?_ | refine' q_ite ?_ | exact o_add | exact o_sub | refine' o_mul ?_ | refine' o_fdiv ?_ | refine' o_mod ?_ | exact o_neg | exact o_abs | exact o_int | exact o_gcd | exact o_lenT | exact o_lenL | exact o_eqI | exact o_ltI | exact o_leI | exact o_gtI | exact o_geI | exact o_neI | (show VI.setParts _ _ _ = some _; rfl) | (show VI.isSeq _ = some _; rfl) | exact Bop.mk rfl | exact Cop.mk rfl | exact Bin.mk rfl | exact Ngd.mk rfl | exact Isd.mk rfl | exact Idx.mk rfl | exact Ctd.mk rfl | exact Jnd.mk rfl)
/-! ### both ways beside each other -/
theorem comp_l {c : D → M Bool} {f : D → M D} {w : List D} {p : Nat → Bool} : ∀ (l : List Nat), (∀ i ∈ l, c (dN i) w = .ok (p i) w) → (∀ i ∈ l, f (dN i) w = .ok (dN i) w) → compIfL c f (l.map dN) w = .ok ((l.filter p).map dN) w
  | [], _, _ => rfl
  | i :: l, hc, hf => by
    have ih := comp_l l (fun j hj => hc j (List.mem_cons_of_mem _ hj)) fun j hj => hf j (List.mem_cons_of_mem _ hj)
    have h1 := hc i List.mem_cons_self
    show M.bind (c (dN i)) (fun b => if b then M.bind (f (dN i)) fun y => M.bind (compIfL c f (l.map dN)) fun ys => M.pure (y :: ys) else compIfL c f (l.map dN)) w = _
    refine bind_ok' h1 ?_
    cases hp : p i with
    | true =>
      rw [if_pos rfl, List.filter_cons_of_pos hp]
      exact bind_ok' (hf i List.mem_cons_self) (bind_ok' ih rfl)
    | false =>
      rw [if_neg (by decide), List.filter_cons_of_neg (by rw [hp]; decide)]
      exact ih
theorem odd_sz : ∀ (l : List Rat) (t r : Rat) (m : Nat), Chs l → Sz m t → m + 6 * l.length ≤ 7000 → oddQ t l = some r → Sz (m + 6 * l.length) r
  | [], t, r, m, _, ht, _, h => by cases h; exact ht
  | p :: l, t, r, m, hc, ht, hm, h => by
    rw [List.length_cons] at hm ⊢
    unfold oddQ at h
    by_cases z : p = 1
    · rw [if_pos z] at h; cases h
    · rw [if_neg z] at h
      have o := hc.head.odd z
      exact (odd_sz l _ r (m + 6) hc.tail ((plQ ht o.1 (by omega)).2.mono (by omega)) (by omega) h).mono (by omega)
theorem dep_T {l : List Nat} (h : l.length ≤ 1000) : B.dep 1 (dT l) = true := by
  show (decide ((l.map dN).length < line) && (l.map dN).all (B.dep 0)) = true
  rw [List.length_map, decide_eq_true (by unfold line; omega), List.all_map]
  exact List.all_eq_true.mpr fun _ _ => rfl
theorem dep_o (o : Option Rat) : B.dep 1 (oD o) = true := by
  cases o with
  | none => rfl
  | some r => rfl
theorem bestL_len (c : List Rat) : (bestL c).length ≤ c.length := by
  have := List.length_filter_le (fun s => decide (ownQ (c.drop s) = bestQ c)) (List.range c.length)
  rw [List.length_range] at this
  exact this
theorem right_cl {c : List Rat} {w : List D} (h : Chs c) (h1 : 1 ≤ c.length) (hl : c.length ≤ 14) (hw : B.Cup w) : ∃ w', Cl (VI.run PR 39) 34 [.cup, dL c] w (.ok (.bl true) w') ∧ B.Cup w' := by
  have hne : c ≠ [] := fun e => by subst e; simp at h1
  obtain ⟨fl, fb, fa⟩ := first_best h hne
  have l40 : c.length ≤ 40 := by omega
  have f30 := fun w => lstarts_cl (k := 33) (w := w) h hl
  have f31 := fun w => lbest_cl (k := 33) (w := w) h hl
  rw [fa] at f31
  obtain ⟨s, w1, e19, l19, c1⟩ := rollN (k := 37) (m := c.length) hw (by omega) (by omega)
  have f14 := fun w => start_cl (k := 32) (s := s) (w := w) h l19 l40
  have f15 := fun w => greatest_cl (k := 32) (w := w) h h1 l40
  have f17 := fun w => bests_cl (k := 32) (w := w) h h1 l40
  have f18 := fun w => from_cl (k := 32) (s := s) (w := w) h l19 l40
  have f33 := fun w => lodds_cl (k := 34) (s := s) (w := w) h l40 (by omega)
  have f16 := fun w => first_cl (k := 33) (w := w) h h1 l40
  have ixs : ∀ i, i < c.length → ∀ w, Idx (.lst (stA c c.length)) (dN i) w (.ok (dQ (ownQ (c.drop i))) w) := fun i hi w => i_lst (j := i) (by rw [List.getElem?_map, List.getElem?_range hi]; rfl) rfl
  have is := ixs s l19
  have lk1 := fun w => B.like_cl (P := PR) (is := 21) (il := 22) (k := 34) (w := w) rfl rfl 2 (.lst [dQ (ownQ (c.drop s)), dQ (bestQ c), dT (bestL c), oD (oddQ 0 (c.drop s))]) (by
    show (decide ((4 : Nat) < line) && (true && (true && (B.dep 1 (dT (bestL c)) && (B.dep 1 (oD (oddQ 0 (c.drop s))) && true))))) = true
    rw [dep_T (by have := bestL_len c; omega), dep_o]
    rfl)
  have fm : firstQ c ∈ bestL c := List.mem_filter.mpr ⟨List.mem_range.mpr fl, decide_eq_true fb⟩
  have cb : ∀ (w : List D) (e6 e7 e8 e9 : Option D), Ev (VI.run PR 38) (etOf PR) ar (.compIf (.var 10) (.nm 10) (.bi .range (.cons (.var 4) .nil)) (.cmp .eq (.idx (.var 2) (.var 10)) (.var 3))) [some .cup, some (dL c), some (.lst (stA c c.length)), some (dQ (bestQ c)), some (dN c.length), some (dN s), e6, e7, e8, e9, none] w (.ok (.lst ((bestL c).map dN)) w) := fun w e6 e7 e8 e9 => by
    refine B.v_compIf (s := .lst ((List.range c.length).map dN)) (w1 := w) ?_ rfl (by rw [List.length_map, List.length_range]; unfold line; omega) (comp_l (p := fun s => decide (ownQ (c.drop s) = bestQ c)) (List.range c.length) (fun i hi => ?_) fun i hi => ?_)
    · repeat' (first | exact range_up (by omega) | exact v_con | exact v_nil | refine' v_var ?_ | exact Get.mk rfl | refine' v_cons ?_ ?_ | refine' v_tup ?_ | refine' v_lst ?_ | refine' v_neg ?_ ?_ | refine' v_not ?_ ?_ | refine' v_bin ?_ ?_ ?_ | refine' v_cmp ?_ ?_ ?_ | refine' v_and ?_ ?_ | refine' v_or ?_ ?_ | refine' v_ite ?_ ?_ | refine' v_chain ?_ ?_ ?_ ?_ | refine' v_bi ?_ ?_ | refine' v_idx ?_ ?_ ?_ | refine' v_isi ?_ ?_ | refine' v_slLo ?_ ?_ ?_ | refine' v_slHi ?_ ?_ ?_ | refine' v_slBo ?_ ?_ ?_ ?_ | refine' v_mjoin ?_ ?_ ?_ | refine' v_call ?_ ?_ | refine' v_callv ?_ ?_ ?_ ?_ | refine' v_err ?_ ?_ | exact Tru.mk rfl | refine' AndV.t (Tru.mk rfl) _ _ ?_ | exact AndV.f (Tru.mk rfl) | refine' OrV.f (Tru.mk rfl) _ _ ?_ | exact OrV.t (Tru.mk rfl) | refine' ChV.t (Tru.mk rfl) _ _ _ ?_ ?_ | exact ChV.f (Tru.mk rfl) | refine' IteV.t (Tru.mk rfl) ?_ | refine' IteV.f (Tru.mk rfl) ?_ | refine' IteS.t (Tru.mk rfl) ?_ | refine' IteS.f (Tru.mk rfl) ?_ | exact s_nil | exact s_raise | refine' s_ret ?_ | refine' s_asg ?_ rfl ?_ | refine' s_asg ?_ ?_ ?_ | (show VI.bindT _ _ _ = some _; rfl) | refine' s_par ?_ ?_ ?_ | refine' s_expr ?_ ?_ | refine' s_ite ?_ ?_ | refine' s_app ?_ ?_ ?_ ?_ | refine' q_nil ?_ | refine' q_ret ?_ | exact q_raise | refine' q_asg ?_ rfl ?_ | refine' q_asg ?_ ?_ ?_ | refine' q_par ?_ ?_ ?_ | refine' q_expr ?_ ?_ | refine' q_ite ?_ | exact o_add | exact o_sub | refine' o_mul ?_ | refine' o_fdiv ?_ | refine' o_mod ?_ | exact o_neg | exact o_abs | exact o_int | exact o_gcd | exact o_lenT | exact o_lenL | exact o_eqI | exact o_ltI | exact o_leI | exact o_gtI | exact o_geI | exact o_neI | (show VI.setParts _ _ _ = some _; rfl) | (show VI.isSeq _ = some _; rfl) | exact Bop.mk rfl | exact Cop.mk rfl | exact Bin.mk rfl | exact Ngd.mk rfl | exact Isd.mk rfl | exact Idx.mk rfl | exact Ctd.mk rfl | exact Jnd.mk rfl)
    · have e := eq_QQ (ownQ (c.drop i)) (bestQ c)
      have ii := ixs i (List.mem_range.mp hi)
      refine bind_ok' (w1 := w) (a := [some .cup, some (dL c), some (.lst (stA c c.length)), some (dQ (bestQ c)), some (dN c.length), some (dN s), e6, e7, e8, e9, some (dN i)]) rfl (bind_ok' (a := .bl (decide (ownQ (c.drop i) = bestQ c))) (w1 := w) (B.calm_ok (Ev.q ?_)) rfl)
      repeat' (first | exact ii _ | exact e | exact v_con | exact v_nil | refine' v_var ?_ | exact Get.mk rfl | refine' v_cons ?_ ?_ | refine' v_tup ?_ | refine' v_lst ?_ | refine' v_neg ?_ ?_ | refine' v_not ?_ ?_ | refine' v_bin ?_ ?_ ?_ | refine' v_cmp ?_ ?_ ?_ | refine' v_and ?_ ?_ | refine' v_or ?_ ?_ | refine' v_ite ?_ ?_ | refine' v_chain ?_ ?_ ?_ ?_ | refine' v_bi ?_ ?_ | refine' v_idx ?_ ?_ ?_ | refine' v_isi ?_ ?_ | refine' v_slLo ?_ ?_ ?_ | refine' v_slHi ?_ ?_ ?_ | refine' v_slBo ?_ ?_ ?_ ?_ | refine' v_mjoin ?_ ?_ ?_ | refine' v_call ?_ ?_ | refine' v_callv ?_ ?_ ?_ ?_ | refine' v_err ?_ ?_ | exact Tru.mk rfl | refine' AndV.t (Tru.mk rfl) _ _ ?_ | exact AndV.f (Tru.mk rfl) | refine' OrV.f (Tru.mk rfl) _ _ ?_ | exact OrV.t (Tru.mk rfl) | refine' ChV.t (Tru.mk rfl) _ _ _ ?_ ?_ | exact ChV.f (Tru.mk rfl) | refine' IteV.t (Tru.mk rfl) ?_ | refine' IteV.f (Tru.mk rfl) ?_ | refine' IteS.t (Tru.mk rfl) ?_ | refine' IteS.f (Tru.mk rfl) ?_ | exact s_nil | exact s_raise | refine' s_ret ?_ | refine' s_asg ?_ rfl ?_ | refine' s_asg ?_ ?_ ?_ | (show VI.bindT _ _ _ = some _; rfl) | refine' s_par ?_ ?_ ?_ | refine' s_expr ?_ ?_ | refine' s_ite ?_ ?_ | refine' s_app ?_ ?_ ?_ ?_ | refine' q_nil ?_ | refine' q_ret ?_ | exact q_raise | refine' q_asg ?_ rfl ?_ | refine' q_asg ?_ ?_ ?_ | refine' q_par ?_ ?_ ?_ | refine' q_expr ?_ ?_ | refine' q_ite ?_ | exact o_add | exact o_sub | refine' o_mul ?_ | refine' o_fdiv ?_ | refine' o_mod ?_ | exact o_neg | exact o_abs | exact o_int | exact o_gcd | exact o_lenT | exact o_lenL | exact o_eqI | exact o_ltI | exact o_leI | exact o_gtI | exact o_geI | exact o_neI | (show VI.setParts _ _ _ = some _; rfl) | (show VI.isSeq _ = some _; rfl) | exact Bop.mk rfl | exact Cop.mk rfl | exact Bin.mk rfl | exact Ngd.mk rfl | exact Isd.mk rfl | exact Idx.mk rfl | exact Ctd.mk rfl | exact Jnd.mk rfl)
    · refine bind_ok' (w1 := w) (a := [some .cup, some (dL c), some (.lst (stA c c.length)), some (dQ (bestQ c)), some (dN c.length), some (dN s), e6, e7, e8, e9, some (dN i)]) rfl (B.calm_ok (Ev.q ?_))
      repeat' (first | exact v_con | exact v_nil | refine' v_var ?_ | exact Get.mk rfl | refine' v_cons ?_ ?_ | refine' v_tup ?_ | refine' v_lst ?_ | refine' v_neg ?_ ?_ | refine' v_not ?_ ?_ | refine' v_bin ?_ ?_ ?_ | refine' v_cmp ?_ ?_ ?_ | refine' v_and ?_ ?_ | refine' v_or ?_ ?_ | refine' v_ite ?_ ?_ | refine' v_chain ?_ ?_ ?_ ?_ | refine' v_bi ?_ ?_ | refine' v_idx ?_ ?_ ?_ | refine' v_isi ?_ ?_ | refine' v_slLo ?_ ?_ ?_ | refine' v_slHi ?_ ?_ ?_ | refine' v_slBo ?_ ?_ ?_ ?_ | refine' v_mjoin ?_ ?_ ?_ | refine' v_call ?_ ?_ | refine' v_callv ?_ ?_ ?_ ?_ | refine' v_err ?_ ?_ | exact Tru.mk rfl | refine' AndV.t (Tru.mk rfl) _ _ ?_ | exact AndV.f (Tru.mk rfl) | refine' OrV.f (Tru.mk rfl) _ _ ?_ | exact OrV.t (Tru.mk rfl) | refine' ChV.t (Tru.mk rfl) _ _ _ ?_ ?_ | exact ChV.f (Tru.mk rfl) | refine' IteV.t (Tru.mk rfl) ?_ | refine' IteV.f (Tru.mk rfl) ?_ | refine' IteS.t (Tru.mk rfl) ?_ | refine' IteS.f (Tru.mk rfl) ?_ | exact s_nil | exact s_raise | refine' s_ret ?_ | refine' s_asg ?_ rfl ?_ | refine' s_asg ?_ ?_ ?_ | (show VI.bindT _ _ _ = some _; rfl) | refine' s_par ?_ ?_ ?_ | refine' s_expr ?_ ?_ | refine' s_ite ?_ ?_ | refine' s_app ?_ ?_ ?_ ?_ | refine' q_nil ?_ | refine' q_ret ?_ | exact q_raise | refine' q_asg ?_ rfl ?_ | refine' q_asg ?_ ?_ ?_ | refine' q_par ?_ ?_ ?_ | refine' q_expr ?_ ?_ | refine' q_ite ?_ | exact o_add | exact o_sub | refine' o_mul ?_ | refine' o_fdiv ?_ | refine' o_mod ?_ | exact o_neg | exact o_abs | exact o_int | exact o_gcd | exact o_lenT | exact o_lenL | exact o_eqI | exact o_ltI | exact o_leI | exact o_gtI | exact o_geI | exact o_neI | (show VI.setParts _ _ _ = some _; rfl) | (show VI.isSeq _ = some _; rfl) | exact Bop.mk rfl | exact Cop.mk rfl | exact Bin.mk rfl | exact Ngd.mk rfl | exact Isd.mk rfl | exact Idx.mk rfl | exact Ctd.mk rfl | exact Jnd.mk rfl)
  have tpb : Bin .tuple [.lst ((bestL c).map dN)] (dT (bestL c)) := ⟨rfl⟩
  have neb : Cop .eq (dT (bestL c)) (.tup []) false := ⟨by
    show eqD _ _ = _
    rw [eq_emptyT (n := 8) (by decide) (by rw [List.all_map]; exact List.all_eq_true.mpr fun _ _ => rfl), List.isEmpty_map]
    cases z : bestL c with
    | nil => rw [z] at fm; exact absurd fm List.not_mem_nil
    | cons _ _ => rfl⟩
  have i2 : ∀ w, Idx (.lst [dQ (ownQ (c.drop s)), dQ (bestQ c), dT (bestL c), oD (oddQ 0 (c.drop s))]) (.int 2) w (.ok (dT (bestL c)) w) := fun w => ⟨rfl⟩
  have nex : Cop .ne (dQ (ownQ (c.drop s))) (dQ (ownQ (c.drop s))) false := ⟨by
    show (eqD (dQ (ownQ (c.drop s))) (dQ (ownQ (c.drop s)))).map (!·) = some false
    have := (eq_QQ (ownQ (c.drop s)) (ownQ (c.drop s))).1
    have e : eqD (dQ (ownQ (c.drop s))) (dQ (ownQ (c.drop s))) = some (decide (ownQ (c.drop s) = ownQ (c.drop s))) := this
    rw [e, decide_eq_true rfl]
    rfl⟩
  have ca : ∀ (w : List D) (e6 e7 e8 e9 : Option D), Ev (VI.run PR 38) (etOf PR) ar (.compIf (.var 10) (.nm 10) (.bi .range (.cons (.var 4) .nil)) (.or (.cmp .is (.call 33 (.cons (.var 1) (.cons (.var 10) .nil))) (.con .non)) (.cmp .ge (.call 27 (.cons (.call 33 (.cons (.var 1) (.cons (.var 10) .nil))) (.cons (.tup (.cons (.con (.int 1)) (.cons (.con (.int 1)) .nil))) .nil))) (.con (.int 0))))) [some .cup, some (dL c), some (.lst (stA c c.length)), some (dQ (bestQ c)), some (dN c.length), some (dN s), e6, e7, e8, e9, none] w (.ok (.lst ((ableL c).map dN)) w) := fun w e6 e7 e8 e9 => by
    refine B.v_compIf (s := .lst ((List.range c.length).map dN)) (w1 := w) ?_ rfl (by rw [List.length_map, List.length_range]; unfold line; omega) (comp_l (p := abl c) (List.range c.length) (fun i hi => ?_) fun i hi => ?_)
    · repeat' (first | exact range_up (by omega) | exact v_con | exact v_nil | refine' v_var ?_ | exact Get.mk rfl | refine' v_cons ?_ ?_ | refine' v_tup ?_ | refine' v_lst ?_ | refine' v_neg ?_ ?_ | refine' v_not ?_ ?_ | refine' v_bin ?_ ?_ ?_ | refine' v_cmp ?_ ?_ ?_ | refine' v_and ?_ ?_ | refine' v_or ?_ ?_ | refine' v_ite ?_ ?_ | refine' v_chain ?_ ?_ ?_ ?_ | refine' v_bi ?_ ?_ | refine' v_idx ?_ ?_ ?_ | refine' v_isi ?_ ?_ | refine' v_slLo ?_ ?_ ?_ | refine' v_slHi ?_ ?_ ?_ | refine' v_slBo ?_ ?_ ?_ ?_ | refine' v_mjoin ?_ ?_ ?_ | refine' v_call ?_ ?_ | refine' v_callv ?_ ?_ ?_ ?_ | refine' v_err ?_ ?_ | exact Tru.mk rfl | refine' AndV.t (Tru.mk rfl) _ _ ?_ | exact AndV.f (Tru.mk rfl) | refine' OrV.f (Tru.mk rfl) _ _ ?_ | exact OrV.t (Tru.mk rfl) | refine' ChV.t (Tru.mk rfl) _ _ _ ?_ ?_ | exact ChV.f (Tru.mk rfl) | refine' IteV.t (Tru.mk rfl) ?_ | refine' IteV.f (Tru.mk rfl) ?_ | refine' IteS.t (Tru.mk rfl) ?_ | refine' IteS.f (Tru.mk rfl) ?_ | exact s_nil | exact s_raise | refine' s_ret ?_ | refine' s_asg ?_ rfl ?_ | refine' s_asg ?_ ?_ ?_ | (show VI.bindT _ _ _ = some _; rfl) | refine' s_par ?_ ?_ ?_ | refine' s_expr ?_ ?_ | refine' s_ite ?_ ?_ | refine' s_app ?_ ?_ ?_ ?_ | refine' q_nil ?_ | refine' q_ret ?_ | exact q_raise | refine' q_asg ?_ rfl ?_ | refine' q_asg ?_ ?_ ?_ | refine' q_par ?_ ?_ ?_ | refine' q_expr ?_ ?_ | refine' q_ite ?_ | exact o_add | exact o_sub | refine' o_mul ?_ | refine' o_fdiv ?_ | refine' o_mod ?_ | exact o_neg | exact o_abs | exact o_int | exact o_gcd | exact o_lenT | exact o_lenL | exact o_eqI | exact o_ltI | exact o_leI | exact o_gtI | exact o_geI | exact o_neI | (show VI.setParts _ _ _ = some _; rfl) | (show VI.isSeq _ = some _; rfl) | exact Bop.mk rfl | exact Cop.mk rfl | exact Bin.mk rfl | exact Ngd.mk rfl | exact Isd.mk rfl | exact Idx.mk rfl | exact Ctd.mk rfl | exact Jnd.mk rfl)
    · have hi := List.mem_range.mp hi
      have q := fun w => lodds_cl (k := 34) (s := i) (w := w) h l40 (by omega)
      refine bind_ok' (w1 := w) (a := [some .cup, some (dL c), some (.lst (stA c c.length)), some (dQ (bestQ c)), some (dN c.length), some (dN s), e6, e7, e8, e9, some (dN i)]) rfl (bind_ok' (a := .bl (abl c i)) (w1 := w) (B.calm_ok (Ev.q ?_)) rfl)
      unfold abl
      cases z : oddQ 0 (c.drop i) with
      | none =>
        rw [z] at q
        have ci : Cop .is .non .non true := ⟨rfl⟩
        show Ev _ _ _ _ _ _ (.ok (.bl true) w)
        have q : ∀ w, Cl (VI.run PR 38) 33 [dL c, dN i] w (.ok .non w) := q
        repeat' (first | exact q _ | exact ci | exact v_con | exact v_nil | refine' v_var ?_ | exact Get.mk rfl | refine' v_cons ?_ ?_ | refine' v_tup ?_ | refine' v_lst ?_ | refine' v_neg ?_ ?_ | refine' v_not ?_ ?_ | refine' v_bin ?_ ?_ ?_ | refine' v_cmp ?_ ?_ ?_ | refine' v_and ?_ ?_ | refine' v_or ?_ ?_ | refine' v_ite ?_ ?_ | refine' v_chain ?_ ?_ ?_ ?_ | refine' v_bi ?_ ?_ | refine' v_idx ?_ ?_ ?_ | refine' v_isi ?_ ?_ | refine' v_slLo ?_ ?_ ?_ | refine' v_slHi ?_ ?_ ?_ | refine' v_slBo ?_ ?_ ?_ ?_ | refine' v_mjoin ?_ ?_ ?_ | refine' v_call ?_ ?_ | refine' v_callv ?_ ?_ ?_ ?_ | refine' v_err ?_ ?_ | exact Tru.mk rfl | refine' AndV.t (Tru.mk rfl) _ _ ?_ | exact AndV.f (Tru.mk rfl) | refine' OrV.f (Tru.mk rfl) _ _ ?_ | exact OrV.t (Tru.mk rfl) | refine' ChV.t (Tru.mk rfl) _ _ _ ?_ ?_ | exact ChV.f (Tru.mk rfl) | refine' IteV.t (Tru.mk rfl) ?_ | refine' IteV.f (Tru.mk rfl) ?_ | refine' IteS.t (Tru.mk rfl) ?_ | refine' IteS.f (Tru.mk rfl) ?_ | exact s_nil | exact s_raise | refine' s_ret ?_ | refine' s_asg ?_ rfl ?_ | refine' s_asg ?_ ?_ ?_ | (show VI.bindT _ _ _ = some _; rfl) | refine' s_par ?_ ?_ ?_ | refine' s_expr ?_ ?_ | refine' s_ite ?_ ?_ | refine' s_app ?_ ?_ ?_ ?_ | refine' q_nil ?_ | refine' q_ret ?_ | exact q_raise | refine' q_asg ?_ rfl ?_ | refine' q_asg ?_ ?_ ?_ | refine' q_par ?_ ?_ ?_ | refine' q_expr ?_ ?_ | refine' q_ite ?_ | exact o_add | exact o_sub | refine' o_mul ?_ | refine' o_fdiv ?_ | refine' o_mod ?_ | exact o_neg | exact o_abs | exact o_int | exact o_gcd | exact o_lenT | exact o_lenL | exact o_eqI | exact o_ltI | exact o_leI | exact o_gtI | exact o_geI | exact o_neI | (show VI.setParts _ _ _ = some _; rfl) | (show VI.isSeq _ = some _; rfl) | exact Bop.mk rfl | exact Cop.mk rfl | exact Bin.mk rfl | exact Ngd.mk rfl | exact Isd.mk rfl | exact Idx.mk rfl | exact Ctd.mk rfl | exact Jnd.mk rfl)
      | some r =>
        rw [z] at q
        have sz := odd_sz (c.drop i) 0 r 1 (h.drop i) sz0 (by rw [List.length_drop]; omega) z
        obtain ⟨l, d1, d2, d3⟩ := ldQ (sz.mono (m := 300) (by rw [List.length_drop]; omega)) sz1 (by decide) (by decide)
        have ql : ∀ w, Cl (VI.run PR 38) 27 [dQ r, .tup [.int 1, .int 1]] w (.ok (.int l) w) := fun w => lle (k := 35) (w := w) d1
        have ci : Cop .is (dQ r) .non false := ⟨rfl⟩
        have cg : Cop .ge (.int l) (.int 0) (decide (1 ≤ r)) := ⟨congrArg some (decide_eq_decide.mpr d2)⟩
        show Ev _ _ _ _ _ _ (.ok (.bl (decide (1 ≤ r))) w)
        have q : ∀ w, Cl (VI.run PR 38) 33 [dL c, dN i] w (.ok (dQ r) w) := q
        repeat' (first | exact q _ | exact ci | exact ql _ | exact cg | exact v_con | exact v_nil | refine' v_var ?_ | exact Get.mk rfl | refine' v_cons ?_ ?_ | refine' v_tup ?_ | refine' v_lst ?_ | refine' v_neg ?_ ?_ | refine' v_not ?_ ?_ | refine' v_bin ?_ ?_ ?_ | refine' v_cmp ?_ ?_ ?_ | refine' v_and ?_ ?_ | refine' v_or ?_ ?_ | refine' v_ite ?_ ?_ | refine' v_chain ?_ ?_ ?_ ?_ | refine' v_bi ?_ ?_ | refine' v_idx ?_ ?_ ?_ | refine' v_isi ?_ ?_ | refine' v_slLo ?_ ?_ ?_ | refine' v_slHi ?_ ?_ ?_ | refine' v_slBo ?_ ?_ ?_ ?_ | refine' v_mjoin ?_ ?_ ?_ | refine' v_call ?_ ?_ | refine' v_callv ?_ ?_ ?_ ?_ | refine' v_err ?_ ?_ | exact Tru.mk rfl | refine' AndV.t (Tru.mk rfl) _ _ ?_ | exact AndV.f (Tru.mk rfl) | refine' OrV.f (Tru.mk rfl) _ _ ?_ | exact OrV.t (Tru.mk rfl) | refine' ChV.t (Tru.mk rfl) _ _ _ ?_ ?_ | exact ChV.f (Tru.mk rfl) | refine' IteV.t (Tru.mk rfl) ?_ | refine' IteV.f (Tru.mk rfl) ?_ | refine' IteS.t (Tru.mk rfl) ?_ | refine' IteS.f (Tru.mk rfl) ?_ | exact s_nil | exact s_raise | refine' s_ret ?_ | refine' s_asg ?_ rfl ?_ | refine' s_asg ?_ ?_ ?_ | (show VI.bindT _ _ _ = some _; rfl) | refine' s_par ?_ ?_ ?_ | refine' s_expr ?_ ?_ | refine' s_ite ?_ ?_ | refine' s_app ?_ ?_ ?_ ?_ | refine' q_nil ?_ | refine' q_ret ?_ | exact q_raise | refine' q_asg ?_ rfl ?_ | refine' q_asg ?_ ?_ ?_ | refine' q_par ?_ ?_ ?_ | refine' q_expr ?_ ?_ | refine' q_ite ?_ | exact o_add | exact o_sub | refine' o_mul ?_ | refine' o_fdiv ?_ | refine' o_mod ?_ | exact o_neg | exact o_abs | exact o_int | exact o_gcd | exact o_lenT | exact o_lenL | exact o_eqI | exact o_ltI | exact o_leI | exact o_gtI | exact o_geI | exact o_neI | (show VI.setParts _ _ _ = some _; rfl) | (show VI.isSeq _ = some _; rfl) | exact Bop.mk rfl | exact Cop.mk rfl | exact Bin.mk rfl | exact Ngd.mk rfl | exact Isd.mk rfl | exact Idx.mk rfl | exact Ctd.mk rfl | exact Jnd.mk rfl)
    · refine bind_ok' (w1 := w) (a := [some .cup, some (dL c), some (.lst (stA c c.length)), some (dQ (bestQ c)), some (dN c.length), some (dN s), e6, e7, e8, e9, some (dN i)]) rfl (B.calm_ok (Ev.q ?_))
      repeat' (first | exact v_con | exact v_nil | refine' v_var ?_ | exact Get.mk rfl | refine' v_cons ?_ ?_ | refine' v_tup ?_ | refine' v_lst ?_ | refine' v_neg ?_ ?_ | refine' v_not ?_ ?_ | refine' v_bin ?_ ?_ ?_ | refine' v_cmp ?_ ?_ ?_ | refine' v_and ?_ ?_ | refine' v_or ?_ ?_ | refine' v_ite ?_ ?_ | refine' v_chain ?_ ?_ ?_ ?_ | refine' v_bi ?_ ?_ | refine' v_idx ?_ ?_ ?_ | refine' v_isi ?_ ?_ | refine' v_slLo ?_ ?_ ?_ | refine' v_slHi ?_ ?_ ?_ | refine' v_slBo ?_ ?_ ?_ ?_ | refine' v_mjoin ?_ ?_ ?_ | refine' v_call ?_ ?_ | refine' v_callv ?_ ?_ ?_ ?_ | refine' v_err ?_ ?_ | exact Tru.mk rfl | refine' AndV.t (Tru.mk rfl) _ _ ?_ | exact AndV.f (Tru.mk rfl) | refine' OrV.f (Tru.mk rfl) _ _ ?_ | exact OrV.t (Tru.mk rfl) | refine' ChV.t (Tru.mk rfl) _ _ _ ?_ ?_ | exact ChV.f (Tru.mk rfl) | refine' IteV.t (Tru.mk rfl) ?_ | refine' IteV.f (Tru.mk rfl) ?_ | refine' IteS.t (Tru.mk rfl) ?_ | refine' IteS.f (Tru.mk rfl) ?_ | exact s_nil | exact s_raise | refine' s_ret ?_ | refine' s_asg ?_ rfl ?_ | refine' s_asg ?_ ?_ ?_ | (show VI.bindT _ _ _ = some _; rfl) | refine' s_par ?_ ?_ ?_ | refine' s_expr ?_ ?_ | refine' s_ite ?_ ?_ | refine' s_app ?_ ?_ ?_ ?_ | refine' q_nil ?_ | refine' q_ret ?_ | exact q_raise | refine' q_asg ?_ rfl ?_ | refine' q_asg ?_ ?_ ?_ | refine' q_par ?_ ?_ ?_ | refine' q_expr ?_ ?_ | refine' q_ite ?_ | exact o_add | exact o_sub | refine' o_mul ?_ | refine' o_fdiv ?_ | refine' o_mod ?_ | exact o_neg | exact o_abs | exact o_int | exact o_gcd | exact o_lenT | exact o_lenL | exact o_eqI | exact o_ltI | exact o_leI | exact o_gtI | exact o_geI | exact o_neI | (show VI.setParts _ _ _ = some _; rfl) | (show VI.isSeq _ = some _; rfl) | exact Bop.mk rfl | exact Cop.mk rfl | exact Bin.mk rfl | exact Ngd.mk rfl | exact Isd.mk rfl | exact Idx.mk rfl | exact Ctd.mk rfl | exact Jnd.mk rfl)
  have iff := ixs (firstQ c) fl
  rw [fb] at iff
  have eqf : Cop .eq (dQ (bestQ c)) (dQ (bestQ c)) true := by have := eq_QQ (bestQ c) (bestQ c); rw [decide_eq_true rfl] at this; exact this
  have lk2 := fun w => B.like_cl (P := PR) (is := 21) (il := 22) (k := 36) (w := w) rfl rfl 0 (dN (firstQ c)) rfl
  have ne := ne_L (ableL c)
  refine ⟨w1, r_ret rfl rfl rfl ?_, c1⟩
  have fin : ∀ (e6 e7 : Option D), Xs (VI.run PR 38) (etOf PR) ar (.cons (.asg (.nm 8) (.call 16 (.cons (.var 1) .nil))) (.cons (.asg (.nm 9) (.compIf (.var 10) (.nm 10) (.bi .range (.cons (.var 4) .nil)) (.or (.cmp .is (.call 33 (.cons (.var 1) (.cons (.var 10) .nil))) (.con .non)) (.cmp .ge (.call 27 (.cons (.call 33 (.cons (.var 1) (.cons (.var 10) .nil))) (.cons (.tup (.cons (.con (.int 1)) (.cons (.con (.int 1)) .nil))) .nil))) (.con (.int 0)))))) (.cons (.ret (.and (.call 22 (.cons (.var 8) (.cons (.ite (.cmp .ne (.var 9) (.lst .nil)) (.idx (.var 9) (.neg (.con (.int 1)))) (.con (.int 0))) .nil))) (.cmp .eq (.idx (.var 2) (.var 8)) (.var 3)))) .nil))) [some .cup, some (dL c), some (.lst (stA c c.length)), some (dQ (bestQ c)), some (dN c.length), some (dN s), e6, e7, none, none, none] w1 (.ok (.ret (.bl true)) w1) := fun e6 e7 => by
    cases z : ableL c with
    | nil =>
      have ff : firstQ c = 0 := by unfold firstQ; rw [z]; rfl
      have ca := fun w => ca w e6 e7 (some (dN (firstQ c))) none
      rw [z] at ca ne
      have ne : Cop .ne (.lst []) (.lst []) false := ne
      rw [ff] at f16 ca iff lk2
      repeat' (first | exact f16 _ | exact ca _ | exact ne | exact lk2 _ | exact iff _ | exact eqf | exact v_con | exact v_nil | refine' v_var ?_ | exact Get.mk rfl | refine' v_cons ?_ ?_ | refine' v_tup ?_ | refine' v_lst ?_ | refine' v_neg ?_ ?_ | refine' v_not ?_ ?_ | refine' v_bin ?_ ?_ ?_ | refine' v_cmp ?_ ?_ ?_ | refine' v_and ?_ ?_ | refine' v_or ?_ ?_ | refine' v_ite ?_ ?_ | refine' v_chain ?_ ?_ ?_ ?_ | refine' v_bi ?_ ?_ | refine' v_idx ?_ ?_ ?_ | refine' v_isi ?_ ?_ | refine' v_slLo ?_ ?_ ?_ | refine' v_slHi ?_ ?_ ?_ | refine' v_slBo ?_ ?_ ?_ ?_ | refine' v_mjoin ?_ ?_ ?_ | refine' v_call ?_ ?_ | refine' v_callv ?_ ?_ ?_ ?_ | refine' v_err ?_ ?_ | exact Tru.mk rfl | refine' AndV.t (Tru.mk rfl) _ _ ?_ | exact AndV.f (Tru.mk rfl) | refine' OrV.f (Tru.mk rfl) _ _ ?_ | exact OrV.t (Tru.mk rfl) | refine' ChV.t (Tru.mk rfl) _ _ _ ?_ ?_ | exact ChV.f (Tru.mk rfl) | refine' IteV.t (Tru.mk rfl) ?_ | refine' IteV.f (Tru.mk rfl) ?_ | refine' IteS.t (Tru.mk rfl) ?_ | refine' IteS.f (Tru.mk rfl) ?_ | exact s_nil | exact s_raise | refine' s_ret ?_ | refine' s_asg ?_ rfl ?_ | refine' s_asg ?_ ?_ ?_ | (show VI.bindT _ _ _ = some _; rfl) | refine' s_par ?_ ?_ ?_ | refine' s_expr ?_ ?_ | refine' s_ite ?_ ?_ | refine' s_app ?_ ?_ ?_ ?_ | refine' q_nil ?_ | refine' q_ret ?_ | exact q_raise | refine' q_asg ?_ rfl ?_ | refine' q_asg ?_ ?_ ?_ | refine' q_par ?_ ?_ ?_ | refine' q_expr ?_ ?_ | refine' q_ite ?_ | exact o_add | exact o_sub | refine' o_mul ?_ | refine' o_fdiv ?_ | refine' o_mod ?_ | exact o_neg | exact o_abs | exact o_int | exact o_gcd | exact o_lenT | exact o_lenL | exact o_eqI | exact o_ltI | exact o_leI | exact o_gtI | exact o_geI | exact o_neI | (show VI.setParts _ _ _ = some _; rfl) | (show VI.isSeq _ = some _; rfl) | exact Bop.mk rfl | exact Cop.mk rfl | exact Bin.mk rfl | exact Ngd.mk rfl | exact Isd.mk rfl | exact Idx.mk rfl | exact Ctd.mk rfl | exact Jnd.mk rfl)
    | cons a l =>
      have la : ∀ w, Idx (.lst ((ableL c).map dN)) (.int (-1)) w (.ok (dN (firstQ c)) w) := fun w => last_at (l := ableL c) (w := w) (by rw [z]; exact fun h => by cases h)
      rw [show (!(ableL c).isEmpty) = true by rw [z]; rfl] at ne
      have ca := fun w => ca w e6 e7 (some (dN (firstQ c))) none
      repeat' (first | exact f16 _ | exact ca _ | exact ne | exact la _ | exact lk2 _ | exact iff _ | exact eqf | exact v_con | exact v_nil | refine' v_var ?_ | exact Get.mk rfl | refine' v_cons ?_ ?_ | refine' v_tup ?_ | refine' v_lst ?_ | refine' v_neg ?_ ?_ | refine' v_not ?_ ?_ | refine' v_bin ?_ ?_ ?_ | refine' v_cmp ?_ ?_ ?_ | refine' v_and ?_ ?_ | refine' v_or ?_ ?_ | refine' v_ite ?_ ?_ | refine' v_chain ?_ ?_ ?_ ?_ | refine' v_bi ?_ ?_ | refine' v_idx ?_ ?_ ?_ | refine' v_isi ?_ ?_ | refine' v_slLo ?_ ?_ ?_ | refine' v_slHi ?_ ?_ ?_ | refine' v_slBo ?_ ?_ ?_ ?_ | refine' v_mjoin ?_ ?_ ?_ | refine' v_call ?_ ?_ | refine' v_callv ?_ ?_ ?_ ?_ | refine' v_err ?_ ?_ | exact Tru.mk rfl | refine' AndV.t (Tru.mk rfl) _ _ ?_ | exact AndV.f (Tru.mk rfl) | refine' OrV.f (Tru.mk rfl) _ _ ?_ | exact OrV.t (Tru.mk rfl) | refine' ChV.t (Tru.mk rfl) _ _ _ ?_ ?_ | exact ChV.f (Tru.mk rfl) | refine' IteV.t (Tru.mk rfl) ?_ | refine' IteV.f (Tru.mk rfl) ?_ | refine' IteS.t (Tru.mk rfl) ?_ | refine' IteS.f (Tru.mk rfl) ?_ | exact s_nil | exact s_raise | refine' s_ret ?_ | refine' s_asg ?_ rfl ?_ | refine' s_asg ?_ ?_ ?_ | (show VI.bindT _ _ _ = some _; rfl) | refine' s_par ?_ ?_ ?_ | refine' s_expr ?_ ?_ | refine' s_ite ?_ ?_ | refine' s_app ?_ ?_ ?_ ?_ | refine' q_nil ?_ | refine' q_ret ?_ | exact q_raise | refine' q_asg ?_ rfl ?_ | refine' q_asg ?_ ?_ ?_ | refine' q_par ?_ ?_ ?_ | refine' q_expr ?_ ?_ | refine' q_ite ?_ | exact o_add | exact o_sub | refine' o_mul ?_ | refine' o_fdiv ?_ | refine' o_mod ?_ | exact o_neg | exact o_abs | exact o_int | exact o_gcd | exact o_lenT | exact o_lenL | exact o_eqI | exact o_ltI | exact o_leI | exact o_gtI | exact o_geI | exact o_neI | (show VI.setParts _ _ _ = some _; rfl) | (show VI.isSeq _ = some _; rfl) | exact Bop.mk rfl | exact Cop.mk rfl | exact Bin.mk rfl | exact Ngd.mk rfl | exact Isd.mk rfl | exact Idx.mk rfl | exact Ctd.mk rfl | exact Jnd.mk rfl)
  by_cases h7 : c.length < 7
  · have d2 : Cop .lt (dN c.length) (.int 7) true := ⟨congrArg some (decide_eq_true (by omega))⟩
    have f32 := fun w => counted_cl (k := 33) (s := s) (w := w) h h7 (by omega)
    repeat' (first | exact f30 _ | exact f31 _ | exact len_L | exact e19 | exact f14 _ | exact f15 _ | exact f17 _ | exact f18 _ | exact is _ | exact cb _ _ _ _ _ | exact tpb | exact f33 _ | exact lk1 _ | exact i2 _ | exact neb | exact d2 | exact f32 _ | exact nex | exact fin _ _ | exact v_con | exact v_nil | refine' v_var ?_ | exact Get.mk rfl | refine' v_cons ?_ ?_ | refine' v_tup ?_ | refine' v_lst ?_ | refine' v_neg ?_ ?_ | refine' v_not ?_ ?_ | refine' v_bin ?_ ?_ ?_ | refine' v_cmp ?_ ?_ ?_ | refine' v_and ?_ ?_ | refine' v_or ?_ ?_ | refine' v_ite ?_ ?_ | refine' v_chain ?_ ?_ ?_ ?_ | refine' v_bi ?_ ?_ | refine' v_idx ?_ ?_ ?_ | refine' v_isi ?_ ?_ | refine' v_slLo ?_ ?_ ?_ | refine' v_slHi ?_ ?_ ?_ | refine' v_slBo ?_ ?_ ?_ ?_ | refine' v_mjoin ?_ ?_ ?_ | refine' v_call ?_ ?_ | refine' v_callv ?_ ?_ ?_ ?_ | refine' v_err ?_ ?_ | exact Tru.mk rfl | refine' AndV.t (Tru.mk rfl) _ _ ?_ | exact AndV.f (Tru.mk rfl) | refine' OrV.f (Tru.mk rfl) _ _ ?_ | exact OrV.t (Tru.mk rfl) | refine' ChV.t (Tru.mk rfl) _ _ _ ?_ ?_ | exact ChV.f (Tru.mk rfl) | refine' IteV.t (Tru.mk rfl) ?_ | refine' IteV.f (Tru.mk rfl) ?_ | refine' IteS.t (Tru.mk rfl) ?_ | refine' IteS.f (Tru.mk rfl) ?_ | exact s_nil | exact s_raise | refine' s_ret ?_ | refine' s_asg ?_ rfl ?_ | refine' s_asg ?_ ?_ ?_ | (show VI.bindT _ _ _ = some _; rfl) | refine' s_par ?_ ?_ ?_ | refine' s_expr ?_ ?_ | refine' s_ite ?_ ?_ | refine' s_app ?_ ?_ ?_ ?_ | refine' q_nil ?_ | refine' q_ret ?_ | exact q_raise | refine' q_asg ?_ rfl ?_ | refine' q_asg ?_ ?_ ?_ | refine' q_par ?_ ?_ ?_ | refine' q_expr ?_ ?_ | refine' q_ite ?_ | exact o_add | exact o_sub | refine' o_mul ?_ | refine' o_fdiv ?_ | refine' o_mod ?_ | exact o_neg | exact o_abs | exact o_int | exact o_gcd | exact o_lenT | exact o_lenL | exact o_eqI | exact o_ltI | exact o_leI | exact o_gtI | exact o_geI | exact o_neI | (show VI.setParts _ _ _ = some _; rfl) | (show VI.isSeq _ = some _; rfl) | exact Bop.mk rfl | exact Cop.mk rfl | exact Bin.mk rfl | exact Ngd.mk rfl | exact Isd.mk rfl | exact Idx.mk rfl | exact Ctd.mk rfl | exact Jnd.mk rfl)
  · have d2 : Cop .lt (dN c.length) (.int 7) false := ⟨congrArg some (decide_eq_false (by omega))⟩
    repeat' (first | exact f30 _ | exact f31 _ | exact len_L | exact e19 | exact f14 _ | exact f15 _ | exact f17 _ | exact f18 _ | exact is _ | exact cb _ _ _ _ _ | exact tpb | exact f33 _ | exact lk1 _ | exact i2 _ | exact neb | exact d2 | exact fin _ _ | exact v_con | exact v_nil | refine' v_var ?_ | exact Get.mk rfl | refine' v_cons ?_ ?_ | refine' v_tup ?_ | refine' v_lst ?_ | refine' v_neg ?_ ?_ | refine' v_not ?_ ?_ | refine' v_bin ?_ ?_ ?_ | refine' v_cmp ?_ ?_ ?_ | refine' v_and ?_ ?_ | refine' v_or ?_ ?_ | refine' v_ite ?_ ?_ | refine' v_chain ?_ ?_ ?_ ?_ | refine' v_bi ?_ ?_ | refine' v_idx ?_ ?_ ?_ | refine' v_isi ?_ ?_ | refine' v_slLo ?_ ?_ ?_ | refine' v_slHi ?_ ?_ ?_ | refine' v_slBo ?_ ?_ ?_ ?_ | refine' v_mjoin ?_ ?_ ?_ | refine' v_call ?_ ?_ | refine' v_callv ?_ ?_ ?_ ?_ | refine' v_err ?_ ?_ | exact Tru.mk rfl | refine' AndV.t (Tru.mk rfl) _ _ ?_ | exact AndV.f (Tru.mk rfl) | refine' OrV.f (Tru.mk rfl) _ _ ?_ | exact OrV.t (Tru.mk rfl) | refine' ChV.t (Tru.mk rfl) _ _ _ ?_ ?_ | exact ChV.f (Tru.mk rfl) | refine' IteV.t (Tru.mk rfl) ?_ | refine' IteV.f (Tru.mk rfl) ?_ | refine' IteS.t (Tru.mk rfl) ?_ | refine' IteS.f (Tru.mk rfl) ?_ | exact s_nil | exact s_raise | refine' s_ret ?_ | refine' s_asg ?_ rfl ?_ | refine' s_asg ?_ ?_ ?_ | (show VI.bindT _ _ _ = some _; rfl) | refine' s_par ?_ ?_ ?_ | refine' s_expr ?_ ?_ | refine' s_ite ?_ ?_ | refine' s_app ?_ ?_ ?_ ?_ | refine' q_nil ?_ | refine' q_ret ?_ | exact q_raise | refine' q_asg ?_ rfl ?_ | refine' q_asg ?_ ?_ ?_ | refine' q_par ?_ ?_ ?_ | refine' q_expr ?_ ?_ | refine' q_ite ?_ | exact o_add | exact o_sub | refine' o_mul ?_ | refine' o_fdiv ?_ | refine' o_mod ?_ | exact o_neg | exact o_abs | exact o_int | exact o_gcd | exact o_lenT | exact o_lenL | exact o_eqI | exact o_ltI | exact o_leI | exact o_gtI | exact o_geI | exact o_neI | (show VI.setParts _ _ _ = some _; rfl) | (show VI.isSeq _ = some _; rfl) | exact Bop.mk rfl | exact Cop.mk rfl | exact Bin.mk rfl | exact Ngd.mk rfl | exact Isd.mk rfl | exact Idx.mk rfl | exact Ctd.mk rfl | exact Jnd.mk rfl)
end K28
end
section
set_option maxRecDepth 100000
set_option maxHeartbeats 8000000
namespace K28
open PySem VI VI.Q
/-! ### many alike -/
def tpN (b : Nat) : Nat → Nat
  | 0 => 1
  | k + 1 => tpN b k * (b - 1)
def btN (b : Nat) : Nat → Nat
  | 0 => 1
  | k + 1 => btN b k * b
theorem tp_le {b : Nat} (hb : b ≤ 30) : ∀ k, tpN b k ≤ 32 ^ k ∧ btN b k ≤ 32 ^ k
  | 0 => ⟨Nat.le_refl _, Nat.le_refl _⟩
  | k + 1 => by
    obtain ⟨a, c⟩ := tp_le hb k
    rw [Nat.pow_succ]
    exact ⟨Nat.mul_le_mul a (by omega), Nat.mul_le_mul c (by omega)⟩
theorem bt_pos {b : Nat} (hb : 1 ≤ b) : ∀ k, 1 ≤ btN b k
  | 0 => Nat.le_refl _
  | k + 1 => Nat.mul_le_mul (bt_pos hb k) hb
abbrev pB (b : Nat) : Rat := 1 / (b : Rat)
theorem b_ne {b : Nat} (hb : 1 ≤ b) : (b : Rat) ≠ 0 := by
  have : (0 : Rat) < (b : Rat) := Rat.natCast_pos.mpr hb
  grind
theorem fr_pB {b : Nat} (hb : 1 ≤ b) : fr (pB b) = (1, (b : Int)) := by
  have n : Nrm ((1, (b : Int)) : Rt) := ⟨by show (0 : Int) < (b : Int); omega, by show Nat.gcd (1 : Int).natAbs ((b : Int)).natAbs = 1; exact Nat.gcd_one_left _⟩
  have := fr_eq n
  rw [this]
  congr 1
theorem chn_pB {b : Nat} (hb : 1 ≤ b) (h30 : b ≤ 30) : Chn (pB b) := by
  have := frac_ok (t := 1) (o := b) hb h30 hb
  rw [Rat.intCast_natCast, Rat.intCast_natCast] at this
  exact this
theorem cast_pred {b : Nat} (hb : 1 ≤ b) : ((b - 1 : Nat) : Rat) = (b : Rat) - 1 := by
  have : ((b - 1 + 1 : Nat) : Rat) = ((b - 1 : Nat) : Rat) + 1 := by rw [Rat.natCast_add]; rfl
  rw [show b - 1 + 1 = b by omega] at this
  grind
abbrev al (b k : Nat) : List Rat := List.replicate k (pB b)
theorem al_chs {b k : Nat} (hb : 1 ≤ b) (h30 : b ≤ 30) : Chs (al b k) := fun q hq => by
  rw [(List.mem_replicate.mp hq).2]
  exact chn_pB hb h30
theorem al_none {b : Nat} (hb : 1 ≤ b) : ∀ k, noneQ (al b k) = (tpN b k : Rat) / (btN b k : Rat)
  | 0 => by show (1 : Rat) = ((1 : Nat) : Rat) / ((1 : Nat) : Rat); have : ((1 : Nat) : Rat) = 1 := rfl; rw [this]; grind
  | k + 1 => by
    show noneQ (al b k) * (1 - pB b) = ((tpN b k * (b - 1) : Nat) : Rat) / ((btN b k * b : Nat) : Rat)
    rw [al_none hb k, Rat.natCast_mul, Rat.natCast_mul, cast_pred hb]
    have h1 := b_ne hb
    have h2 := b_ne (bt_pos hb k)
    grind
theorem al_own {b : Nat} (hb : 1 ≤ b) : ∀ k, ownQ (al b (k + 1)) = (((k + 1) * tpN b k : Nat) : Rat) / ((b * btN b k : Nat) : Rat)
  | 0 => by
    show pB b * 1 + (1 - pB b) * 0 = (((0 + 1) * 1 : Nat) : Rat) / ((b * 1 : Nat) : Rat)
    rw [show (0 + 1) * 1 = 1 from rfl, Nat.mul_one]
    have : ((1 : Nat) : Rat) = 1 := rfl
    rw [this]
    grind
  | k + 1 => by
    show pB b * noneQ (al b (k + 1)) + (1 - pB b) * ownQ (al b (k + 1)) = _
    rw [al_own hb k, al_none hb (k + 1)]
    show pB b * ((tpN b k * (b - 1) : Nat) / (btN b k * b : Nat)) + (1 - pB b) * (((k + 1) * tpN b k : Nat) / (b * btN b k : Nat)) = (((k + 1 + 1) * (tpN b k * (b - 1)) : Nat) : Rat) / ((b * (btN b k * b) : Nat) : Rat)
    simp only [Rat.natCast_mul, Rat.natCast_add, cast_pred hb]
    have h1 := b_ne hb
    have h2 := b_ne (bt_pos hb k)
    have : ((1 : Nat) : Rat) = 1 := rfl
    rw [this]
    grind
theorem al_odd {b : Nat} (hb : 2 ≤ b) : ∀ (k : Nat) (t : Rat), oddQ t (al b k) = some (t + (k : Rat) / ((b : Rat) - 1))
  | 0, t => by
    show some t = _
    have : ((0 : Nat) : Rat) = 0 := rfl
    rw [this]
    congr 1
    grind
  | k + 1, t => by
    have h1 := b_ne (b := b) (by omega)
    have hb1 : (b : Rat) - 1 ≠ 0 := by
      rw [← cast_pred (by omega)]
      exact b_ne (by omega)
    have ne : pB b ≠ 1 := by
      intro e
      have : (b : Rat) = 1 := by grind
      grind
    show (if pB b = 1 then none else oddQ (t + pB b / (1 - pB b)) (al b k)) = _
    rw [if_neg ne, al_odd hb k]
    congr 1
    rw [Rat.natCast_add]
    have : ((1 : Nat) : Rat) = 1 := rfl
    rw [this]
    have e : pB b / (1 - pB b) = 1 / ((b : Rat) - 1) := by grind
    rw [e]
    grind
theorem al_drop {b m s : Nat} : (al b m).drop s = al b (m - s) := List.drop_replicate
theorem al_ab {b : Nat} (hb : 2 ≤ b) (h30 : b ≤ 30) (k : Nat) : Ab (al b k) ↔ b - 1 ≤ k := by
  have := abl_iff (c := al b k) (s := 0) (al_chs (by omega) h30)
  rw [List.drop_zero] at this
  rw [← this]
  unfold abl
  rw [List.drop_zero, al_odd hb]
  show decide ((1 : Rat) ≤ 0 + (k : Rat) / ((b : Rat) - 1)) = true ↔ _
  rw [decide_eq_true_eq]
  have bp : (0 : Rat) < (b : Rat) - 1 := by
    rw [← cast_pred (by omega)]
    exact Rat.natCast_pos.mpr (by omega)
  have e : (k : Rat) = (k : Rat) / ((b : Rat) - 1) * ((b : Rat) - 1) := by grind
  constructor
  · intro h
    have h := Rat.mul_le_mul_of_nonneg_right h (Rat.le_of_lt bp)
    have h : ((b - 1 : Nat) : Rat) ≤ (k : Rat) := by
      rw [cast_pred (by omega)]
      grind
    exact Rat.natCast_le_natCast.mp h
  · intro h
    have h : ((b - 1 : Nat) : Rat) ≤ (k : Rat) := Rat.natCast_le_natCast.mpr h
    rw [cast_pred (by omega)] at h
    refine Rat.le_of_mul_le_mul_right (c := (b : Rat) - 1) ?_ bp
    grind
theorem al_plc {b : Nat} (hb : 2 ≤ b) (h30 : b ≤ 30) : ∀ m, plc (al b m) = m + 1 - b
  | 0 => by show 0 = 0 + 1 - b; omega
  | m + 1 => by
    show (if noneQ (al b m) ≤ ownQ (al b m) then plc (al b m) + 1 else 0) = m + 1 + 1 - b
    have i := al_ab hb h30 m
    by_cases z : b - 1 ≤ m
    · have q : noneQ (al b m) ≤ ownQ (al b m) := i.mpr z
      rw [if_pos q, al_plc hb h30 m]
      omega
    · have q : ¬ noneQ (al b m) ≤ ownQ (al b m) := fun h => z (i.mp h)
      rw [if_neg q]
      omega
/-! with a sure one behind -/
abbrev su (b k : Nat) : List Rat := al b k ++ [1]
theorem chn1 : Chn 1 := ⟨by decide, Rat.le_refl, by decide⟩
theorem su_chs {b k : Nat} (hb : 1 ≤ b) (h30 : b ≤ 30) : Chs (su b k) := fun q hq => by
  rcases List.mem_append.mp hq with hq | hq
  · exact al_chs hb h30 q hq
  · rw [List.mem_singleton.mp hq]; exact chn1
theorem su_none {b : Nat} : ∀ k, noneQ (su b k) = 0
  | 0 => by show (1 : Rat) * (1 - 1) = 0; grind
  | k + 1 => by
    show noneQ (su b k) * (1 - pB b) = 0
    rw [su_none k]; grind
theorem su_plc {b : Nat} (hb : 1 ≤ b) (h30 : b ≤ 30) : ∀ k, plc (su b k) = k
  | 0 => by
    show (if (1 : Rat) ≤ 0 then _ else 0) = 0
    rw [if_neg (by decide)]
  | k + 1 => by
    show (if noneQ (su b k) ≤ ownQ (su b k) then plc (su b k) + 1 else 0) = k + 1
    rw [if_pos (by rw [su_none]; exact own_nn (su_chs hb h30)), su_plc hb h30 k]
theorem su_odd {b : Nat} (hb : 2 ≤ b) : ∀ (k : Nat) (t : Rat), oddQ t (su b k) = none
  | 0, t => by
    show (if (1 : Rat) = 1 then none else _) = none
    rw [if_pos rfl]
  | k + 1, t => by
    have h1 := b_ne (b := b) (by omega)
    have hb1 : (b : Rat) - 1 ≠ 0 := by
      rw [← cast_pred (by omega)]
      exact b_ne (by omega)
    have ne : pB b ≠ 1 := by
      intro e
      have : (b : Rat) = 1 := by grind
      grind
    show (if pB b = 1 then none else oddQ (t + pB b / (1 - pB b)) (su b k)) = none
    rw [if_neg ne, su_odd hb k]
theorem su_best {b k : Nat} (hb : 1 ≤ b) (h30 : b ≤ 30) : firstQ (su b k) = k ∧ bestQ (su b k) = 1 := by
  have h := su_chs (k := k) hb h30
  have hne : su b k ≠ [] := by simp
  have f := first_plc h hne
  rw [su_plc hb h30] at f
  refine ⟨f, ?_⟩
  have g := (first_best h hne).2.1
  rw [f] at g
  rw [← g]
  have : (su b k).drop k = [1] := by
    unfold su al
    rw [List.drop_append_of_le_length (by rw [List.length_replicate]; exact Nat.le_refl _), List.drop_eq_nil_of_le (by rw [List.length_replicate]; exact Nat.le_refl _)]
    rfl
  rw [this]
  show (1 : Rat) * 1 + (1 - 1) * 0 = 1
  grind
end K28
end
section
set_option maxRecDepth 1000000
set_option maxHeartbeats 8000000
namespace K28
open PySem VI VI.Q
theorem wr0 (w : List D) : Cl (VI.run PR 38) 14 [.tup [.tup [.int 1, .int 2], .tup [.int 1, .int 2]], .int 0] w (.ok (.tup [.int 1, .int 2]) w) := ⟨by kernel_rfl⟩
theorem wr1 (w : List D) : Cl (VI.run PR 38) 15 [.tup [.tup [.int 1, .int 2], .tup [.int 1, .int 2]]] w (.ok (.tup [.int 1, .int 2]) w) := ⟨by kernel_rfl⟩
theorem wr2 (w : List D) : Cl (VI.run PR 38) 16 [.tup [.tup [.int 1, .int 2], .tup [.int 1, .int 2]]] w (.ok (.int 1) w) := ⟨by kernel_rfl⟩
theorem wr3 (w : List D) : Cl (VI.run PR 38) 17 [.tup [.tup [.int 1, .int 2], .tup [.int 1, .int 2]]] w (.ok (.tup [.int 0, .int 1]) w) := ⟨by kernel_rfl⟩
theorem wr4 (w : List D) : Cl (VI.run PR 38) 18 [.tup [.tup [.int 1, .int 2], .tup [.int 1, .int 3]], .int 0] w (.ok (.tup [.int 3, .int 2]) w) := ⟨by kernel_rfl⟩
theorem wr5 (w : List D) : Cl (VI.run PR 38) 18 [.tup [.tup [.int 1, .int 1], .tup [.int 1, .int 3]], .int 0] w (.ok (.non) w) := ⟨by kernel_rfl⟩
theorem wr6 (w : List D) : Cl (VI.run PR 38) 16 [.tup [.tup [.int 1, .int 1], .tup [.int 1, .int 3]]] w (.ok (.int 0) w) := ⟨by kernel_rfl⟩
theorem wr7 (w : List D) : Cl (VI.run PR 38) 15 [.tup [.tup [.int 1, .int 1], .tup [.int 1, .int 3]]] w (.ok (.tup [.int 2, .int 3]) w) := ⟨by kernel_rfl⟩
theorem wr8 (w : List D) : Cl (VI.run PR 38) 16 [.tup [.tup [.int 0, .int 1]]] w (.ok (.int 0) w) := ⟨by kernel_rfl⟩
theorem wr9 (w : List D) : Cl (VI.run PR 38) 15 [.tup [.tup [.int 1, .int 4], .tup [.int 1, .int 5]]] w (.ok (.tup [.int 7, .int 20]) w) := ⟨by kernel_rfl⟩
theorem wr10 (w : List D) : Cl (VI.run PR 38) 17 [.tup [.tup [.int 0, .int 1], .tup [.int 0, .int 1]]] w (.ok (.tup [.int 0, .int 1]) w) := ⟨by kernel_rfl⟩
abbrev wV : D := .lst [.tup [.int 1, .int 2], .tup [.int 1, .int 2], .int 1, .tup [.int 0, .int 1], .tup [.int 3, .int 2], .non, .int 0, .tup [.int 2, .int 3], .int 0, .tup [.int 7, .int 20], .tup [.int 0, .int 1]]
theorem like_w (w : List D) : Cl (VI.run PR 38) 22 [wV, wV] w (.ok (.bl true) w) := B.like_cl (P := PR) (is := 21) (il := 22) (k := 34) (w := w) rfl rfl 2 wV (by rfl)
theorem writ_cl (w : List D) : Cl (VI.run PR 39) 36 [] w (.ok (.bl true) w) := by
  refine r_ret rfl rfl rfl ?_
  repeat' (first | exact wr0 _ | exact wr1 _ | exact wr2 _ | exact wr3 _ | exact wr4 _ | exact wr5 _ | exact wr6 _ | exact wr7 _ | exact wr8 _ | exact wr9 _ | exact wr10 _ | exact like_w _ | exact v_con | exact v_nil | refine' v_var ?_ | exact Get.mk rfl | refine' v_cons ?_ ?_ | refine' v_tup ?_ | refine' v_lst ?_ | refine' v_neg ?_ ?_ | refine' v_not ?_ ?_ | refine' v_bin ?_ ?_ ?_ | refine' v_cmp ?_ ?_ ?_ | refine' v_and ?_ ?_ | refine' v_or ?_ ?_ | refine' v_ite ?_ ?_ | refine' v_chain ?_ ?_ ?_ ?_ | refine' v_bi ?_ ?_ | refine' v_idx ?_ ?_ ?_ | refine' v_isi ?_ ?_ | refine' v_slLo ?_ ?_ ?_ | refine' v_slHi ?_ ?_ ?_ | refine' v_slBo ?_ ?_ ?_ ?_ | refine' v_mjoin ?_ ?_ ?_ | refine' v_call ?_ ?_ | refine' v_callv ?_ ?_ ?_ ?_ | refine' v_err ?_ ?_ | exact Tru.mk rfl | refine' AndV.t (Tru.mk rfl) _ _ ?_ | exact AndV.f (Tru.mk rfl) | refine' OrV.f (Tru.mk rfl) _ _ ?_ | exact OrV.t (Tru.mk rfl) | refine' ChV.t (Tru.mk rfl) _ _ _ ?_ ?_ | exact ChV.f (Tru.mk rfl) | refine' IteV.t (Tru.mk rfl) ?_ | refine' IteV.f (Tru.mk rfl) ?_ | refine' IteS.t (Tru.mk rfl) ?_ | refine' IteS.f (Tru.mk rfl) ?_ | exact s_nil | exact s_raise | refine' s_ret ?_ | refine' s_asg ?_ rfl ?_ | refine' s_asg ?_ ?_ ?_ | (show VI.bindT _ _ _ = some _; rfl) | refine' s_par ?_ ?_ ?_ | refine' s_expr ?_ ?_ | refine' s_ite ?_ ?_ | refine' s_app ?_ ?_ ?_ ?_ | refine' q_nil ?_ | refine' q_ret ?_ | exact q_raise | refine' q_asg ?_ rfl ?_ | refine' q_asg ?_ ?_ ?_ | refine' q_par ?_ ?_ ?_ | refine' q_expr ?_ ?_ | refine' q_ite ?_ | exact o_add | exact o_sub | refine' o_mul ?_ | refine' o_fdiv ?_ | refine' o_mod ?_ | exact o_neg | exact o_abs | exact o_int | exact o_gcd | exact o_lenT | exact o_lenL | exact o_eqI | exact o_ltI | exact o_leI | exact o_gtI | exact o_geI | exact o_neI | (show VI.setParts _ _ _ = some _; rfl) | (show VI.isSeq _ = some _; rfl) | exact Bop.mk rfl | exact Cop.mk rfl | exact Bin.mk rfl | exact Ngd.mk rfl | exact Isd.mk rfl | exact Idx.mk rfl | exact Ctd.mk rfl | exact Jnd.mk rfl)
theorem errs_cl (w : List D) : Cl (VI.run PR 39) 37 [] w (.ok (.bl true) w) := ⟨by kernel_rfl⟩
end K28
end
section
set_option maxRecDepth 100000
set_option maxHeartbeats 8000000
namespace K28
open PySem VI VI.Q
def gBody : Ss := forB (nthS 5 f__law_great_right.body)
theorem pw_lt {b : Nat} (hb : b ≤ 30) {k : Nat} (hk : k ≤ 40) : tpN b k < 2 ^ 201 ∧ btN b k < 2 ^ 201 := by
  obtain ⟨x, y⟩ := tp_le hb k
  have : 32 ^ k ≤ 32 ^ 40 := Nat.pow_le_pow_right (by decide) hk
  have : (32 : Nat) ^ 40 < 2 ^ 201 := by decide
  omega
theorem mulN {x y : Nat} (h1 : x < 2 ^ 201) (h2 : y < 2 ^ 20) : mulOk (x : Int) (y : Int) = true := mulOk_of 201 20 (by omega) (by omega) (by decide) (by decide) (by decide)
theorem mulN' {x y : Nat} (h1 : x < 2 ^ 20) (h2 : y < 2 ^ 201) : mulOk (x : Int) (y : Int) = true := mulOk_of 20 201 (by omega) (by omega) (by decide) (by decide) (by decide)
theorem pow_loop {k b : Nat} {w : List D} {e0 e2 e3 e4 e5 e9 e10 e11 : Option D} (hb : 1 ≤ b) (h30 : b ≤ 30) : ∀ (d j : Nat) (e8 : Option D), j + d ≤ 40 →
    ∃ e8', forL (fun d env => M.bind (liftO (bindT (.nm 8) d env)) fun env' => execs (VI.run PR k) (etOf PR) ar gBody env') ((List.range d).map fun i => dN (j + i)) [e0, some (dN b), e2, e3, e4, e5, some (dN (tpN b j)), some (dN (btN b j)), e8, e9, e10, e11] w = .ok (.nx [e0, some (dN b), e2, e3, e4, e5, some (dN (tpN b (j + d))), some (dN (btN b (j + d))), e8', e9, e10, e11]) w
  | 0, j, e8, _ => ⟨e8, rfl⟩
  | d + 1, j, e8, h => by
    obtain ⟨x, y⟩ := pw_lt (b := b) h30 (k := j) (by omega)
    have s1 : Bop .sub (dN b) (.int 1) (dN (b - 1)) := ⟨by
      show some (D.int ((b : Int) - 1)) = some (D.int ((b - 1 : Nat) : Int))
      exact congrArg (fun z => some (D.int z)) (by omega)⟩
    have m1 : Bop .mul (dN (tpN b j)) (dN (b - 1)) (dN (tpN b (j + 1))) := ⟨by
      show (if mulOk (tpN b j : Int) ((b - 1 : Nat) : Int) = true then some (D.int ((tpN b j : Int) * ((b - 1 : Nat) : Int))) else none) = _
      rw [if_pos (mulN x (by omega))]
      exact congrArg (fun z => some (D.int z)) (Int.natCast_mul _ _).symm⟩
    have m2 : Bop .mul (dN (btN b j)) (dN b) (dN (btN b (j + 1))) := ⟨by
      show (if mulOk (btN b j : Int) (b : Int) = true then some (D.int ((btN b j : Int) * (b : Int))) else none) = _
      rw [if_pos (mulN y (by omega))]
      exact congrArg (fun z => some (D.int z)) (Int.natCast_mul _ _).symm⟩
    have st : M.bind (liftO (bindT (.nm 8) (dN j) [e0, some (dN b), e2, e3, e4, e5, some (dN (tpN b j)), some (dN (btN b j)), e8, e9, e10, e11])) (fun env' => execs (VI.run PR k) (etOf PR) ar gBody env') w = .ok (.nx [e0, some (dN b), e2, e3, e4, e5, some (dN (tpN b (j + 1))), some (dN (btN b (j + 1))), some (dN j), e9, e10, e11]) w := by
      refine bind_ok' (w1 := w) (a := [e0, some (dN b), e2, e3, e4, e5, some (dN (tpN b j)), some (dN (btN b j)), some (dN j), e9, e10, e11]) rfl (Xs.q ?_)
      repeat' (first | exact s1 | exact m1 | exact m2 | exact v_con | exact v_nil | refine' v_var ?_ | exact Get.mk rfl | refine' v_cons ?_ ?_ | refine' v_tup ?_ | refine' v_lst ?_ | refine' v_neg ?_ ?_ | refine' v_not ?_ ?_ | refine' v_bin ?_ ?_ ?_ | refine' v_cmp ?_ ?_ ?_ | refine' v_and ?_ ?_ | refine' v_or ?_ ?_ | refine' v_ite ?_ ?_ | refine' v_chain ?_ ?_ ?_ ?_ | refine' v_bi ?_ ?_ | refine' v_idx ?_ ?_ ?_ | refine' v_isi ?_ ?_ | refine' v_slLo ?_ ?_ ?_ | refine' v_slHi ?_ ?_ ?_ | refine' v_slBo ?_ ?_ ?_ ?_ | refine' v_mjoin ?_ ?_ ?_ | refine' v_call ?_ ?_ | refine' v_callv ?_ ?_ ?_ ?_ | refine' v_err ?_ ?_ | exact Tru.mk rfl | refine' AndV.t (Tru.mk rfl) _ _ ?_ | exact AndV.f (Tru.mk rfl) | refine' OrV.f (Tru.mk rfl) _ _ ?_ | exact OrV.t (Tru.mk rfl) | refine' ChV.t (Tru.mk rfl) _ _ _ ?_ ?_ | exact ChV.f (Tru.mk rfl) | refine' IteV.t (Tru.mk rfl) ?_ | refine' IteV.f (Tru.mk rfl) ?_ | refine' IteS.t (Tru.mk rfl) ?_ | refine' IteS.f (Tru.mk rfl) ?_ | exact s_nil | exact s_raise | refine' s_ret ?_ | refine' s_asg ?_ rfl ?_ | refine' s_asg ?_ ?_ ?_ | (show VI.bindT _ _ _ = some _; rfl) | refine' s_par ?_ ?_ ?_ | refine' s_expr ?_ ?_ | refine' s_ite ?_ ?_ | refine' s_app ?_ ?_ ?_ ?_ | refine' q_nil ?_ | refine' q_ret ?_ | exact q_raise | refine' q_asg ?_ rfl ?_ | refine' q_asg ?_ ?_ ?_ | refine' q_par ?_ ?_ ?_ | refine' q_expr ?_ ?_ | refine' q_ite ?_ | exact o_add | exact o_sub | refine' o_mul ?_ | refine' o_fdiv ?_ | refine' o_mod ?_ | exact o_neg | exact o_abs | exact o_int | exact o_gcd | exact o_lenT | exact o_lenL | exact o_eqI | exact o_ltI | exact o_leI | exact o_gtI | exact o_geI | exact o_neI | (show VI.setParts _ _ _ = some _; rfl) | (show VI.isSeq _ = some _; rfl) | exact Bop.mk rfl | exact Cop.mk rfl | exact Bin.mk rfl | exact Ngd.mk rfl | exact Isd.mk rfl | exact Idx.mk rfl | exact Ctd.mk rfl | exact Jnd.mk rfl)
    obtain ⟨e8', g⟩ := pow_loop (k := k) (w := w) (e0 := e0) (e2 := e2) (e3 := e3) (e4 := e4) (e5 := e5) (e9 := e9) (e10 := e10) (e11 := e11) hb h30 d (j + 1) (some (dN j)) (by omega)
    rw [rng_cons]
    rw [show j + 1 + d = j + (d + 1) by omega] at g
    exact ⟨e8', bind_ok' st g⟩
theorem dL_al {b m : Nat} (hb : 1 ≤ b) : dL (al b m) = .tup (List.replicate m (.tup [.int 1, dN b])) := by
  show D.tup ((List.replicate m (pB b)).map dQ) = _
  rw [List.map_replicate]
  have : dQ (pB b) = .tup [.int 1, dN b] := congrArg dR (fr_pB hb)
  rw [this]
theorem great_cl {w : List D} (hw : B.Cup w) : ∃ w', Cl (VI.run PR 39) 35 [.cup] w (.ok (.bl true) w') ∧ B.Cup w' := by
  obtain ⟨i1, w1, x1, l1, c1⟩ := rollN (k := 37) (m := 29) hw (by decide) (by decide)
  obtain ⟨i2, w2, x2, l2, c2⟩ := rollN (k := 37) (m := 40) c1 (by decide) (by decide)
  have x1 : Cl (VI.run PR 38) 19 [.cup, .int 29] w (.ok (.int i1) w1) := x1
  have x2 : Cl (VI.run PR 38) 19 [.cup, .int 40] w1 (.ok (.int i2) w2) := x2
  obtain ⟨b, hb⟩ : ∃ b, b = 2 + i1 := ⟨_, rfl⟩
  obtain ⟨m, hm⟩ : ∃ m, m = 1 + i2 := ⟨_, rfl⟩
  have b2 : 2 ≤ b := by omega
  have b30 : b ≤ 30 := by omega
  have m1 : 1 ≤ m := by omega
  have m40 : m ≤ 40 := by omega
  obtain ⟨st, hst⟩ : ∃ st, st = m + 1 - b := ⟨_, rfl⟩
  obtain ⟨k, hk⟩ : ∃ k, k + 1 = m - st := ⟨m - st - 1, by omega⟩
  have a1 : Bop .add (.int 2) (.int i1) (dN b) := ⟨by
    show some (D.int (2 + (i1 : Int))) = some (D.int (b : Int))
    exact congrArg (fun z => some (D.int z)) (by omega)⟩
  have a2 : Bop .add (.int 1) (.int i2) (dN m) := ⟨by
    show some (D.int (1 + (i2 : Int))) = some (D.int (m : Int))
    exact congrArg (fun z => some (D.int z)) (by omega)⟩
  have a3 : Bop .mul (.tup [.tup [.int 1, dN b]]) (dN m) (dL (al b m)) := by
    have := mul_tup (xs := [D.tup [.int 1, dN b]]) (k := m) (by omega) (by show 1 ≤ 1000; decide)
    rw [reps_one, ← dL_al (by omega)] at this
    exact this
  have a4 : Bin .max [.int 0, .int ((m : Int) - (b : Int) + 1)] (dN st) := ⟨by
    show some (D.int (if (m : Int) - (b : Int) + 1 > 0 then (m : Int) - (b : Int) + 1 else 0)) = some (D.int (st : Int))
    refine congrArg (fun z => some (D.int z)) ?_
    split <;> omega⟩
  have a5 : Bop .sub (dN m) (dN st) (dN (k + 1)) := ⟨by
    show some (D.int ((m : Int) - (st : Int))) = some (D.int ((k + 1 : Nat) : Int))
    exact congrArg (fun z => some (D.int z)) (by omega)⟩
  have a6 : Bop .sub (dN (k + 1)) (.int 1) (dN k) := ⟨by
    show some (D.int (((k + 1 : Nat) : Int) - 1)) = some (D.int (k : Int))
    exact congrArg (fun z => some (D.int z)) (by omega)⟩
  have a7 : Bop .sub (dN m) (.int 1) (dN (m - 1)) := ⟨by
    show some (D.int ((m : Int) - 1)) = some (D.int ((m - 1 : Nat) : Int))
    exact congrArg (fun z => some (D.int z)) (by omega)⟩
  have a8 : Bop .sub (dN b) (.int 1) (dN (b - 1)) := ⟨by
    show some (D.int ((b : Int) - 1)) = some (D.int ((b - 1 : Nat) : Int))
    exact congrArg (fun z => some (D.int z)) (by omega)⟩
  obtain ⟨e8, g⟩ := pow_loop (k := 38) (b := b) (w := w2) (e0 := some .cup) (e2 := some (dN m)) (e3 := some (dL (al b m))) (e4 := some (dN st)) (e5 := some (dN (k + 1))) (e9 := none) (e10 := none) (e11 := none) (by omega) b30 k 0 none (by omega)
  have er : (List.range k).map (fun i => dN (0 + i)) = (List.range k).map dN := List.map_congr_left fun i _ => congrArg dN (Nat.zero_add i)
  rw [er, Nat.zero_add] at g
  obtain ⟨t2, bt2⟩ := pw_lt (b := b) b30 (k := k) (by omega)
  have hc := al_chs (b := b) (k := m) (by omega) b30
  have cl : (al b m).length = m := List.length_replicate
  have hne : al b m ≠ [] := fun e => by have := congrArg List.length e; rw [cl] at this; simp at this; omega
  have ff : firstQ (al b m) = st := by rw [first_plc hc hne, al_plc b2 b30, hst]
  have fb := (first_best hc hne).2.1
  rw [ff, al_drop, ← hk] at fb
  have f16 := fun w => first_cl (k := 33) (c := al b m) (w := w) hc (by rw [cl]; exact m1) (by rw [cl]; exact m40)
  rw [ff] at f16
  have f14 := fun w => start_cl (k := 32) (s := st) (c := al b m) (w := w) hc (by rw [cl]; omega) (by rw [cl]; exact m40)
  rw [al_drop, ← hk, al_own (by omega)] at f14
  have f15 := fun w => greatest_cl (k := 32) (c := al b m) (w := w) hc (by rw [cl]; exact m1) (by rw [cl]; exact m40)
  rw [← fb, al_own (by omega)] at f15
  have f18 := fun w => from_cl (k := 32) (s := 0) (c := al b m) (w := w) hc (by rw [cl]; omega) (by rw [cl]; exact m40)
  rw [List.drop_zero, al_odd b2] at f18
  have f14b := fun w => start_cl (k := 32) (s := m - 1) (c := al b m) (w := w) hc (by rw [cl]; omega) (by rw [cl]; exact m40)
  rw [al_drop, show m - (m - 1) = 1 by omega] at f14b
  have o1 : ownQ (al b 1) = pB b := by show pB b * 1 + (1 - pB b) * 0 = pB b; grind
  rw [o1, show dQ (pB b) = .tup [.int 1, dN b] from congrArg dR (fr_pB (by omega))] at f14b
  generalize hV : (((k + 1) * tpN b k : Nat) : Rat) / ((b * btN b k : Nat) : Rat) = V at *
  have f18 : ∀ w, Cl (VI.run PR 38) 18 [dL (al b m), .int 0] w (.ok (dQ ((m : Rat) / ((b : Rat) - 1))) w) := fun w => by
    have := f18 w
    rw [show (0 : Rat) + (m : Rat) / ((b : Rat) - 1) = (m : Rat) / ((b : Rat) - 1) from by grind] at this
    exact this
  have n1 : Bop .mul (dN (k + 1)) (dN (tpN b k)) (dN ((k + 1) * tpN b k)) := ⟨by
    show (if mulOk ((k + 1 : Nat) : Int) (tpN b k : Int) = true then some (D.int (((k + 1 : Nat) : Int) * (tpN b k : Int))) else none) = _
    rw [if_pos (mulN' (by omega) t2)]
    exact congrArg (fun z => some (D.int z)) (Int.natCast_mul _ _).symm⟩
  have n2 : Bop .mul (dN b) (dN (btN b k)) (dN (b * btN b k)) := ⟨by
    show (if mulOk (b : Int) (btN b k : Int) = true then some (D.int ((b : Int) * (btN b k : Int))) else none) = _
    rw [if_pos (mulN' (by omega) bt2)]
    exact congrArg (fun z => some (D.int z)) (Int.natCast_mul _ _).symm⟩
  have bp := bt_pos (b := b) (by omega) k
  have q1 : ∀ w, Cl (VI.run PR 38) 24 [dN ((k + 1) * tpN b k), dN (b * btN b k)] w (.ok (dQ V) w) := fun w => by
    have y1 : (k + 1) * tpN b k < 2 ^ 240 := Nat.lt_of_lt_of_le (Nat.mul_lt_mul'' (show k + 1 < 2 ^ 20 by omega) t2) (by decide)
    have y2 : b * btN b k < 2 ^ 240 := Nat.lt_of_lt_of_le (Nat.mul_lt_mul'' (show b < 2 ^ 20 by omega) bt2) (by decide)
    have y3 : 0 < b * btN b k := Nat.mul_pos (by omega) bp
    have := llo (k := 35) (w := w) (t := (((k + 1) * tpN b k : Nat) : Int)) (b := ((b * btN b k : Nat) : Int)) (n := 240) (by omega) (by omega) (by omega) (by decide)
    rw [Rat.intCast_natCast, Rat.intCast_natCast, hV] at this
    exact this
  have q2 : ∀ w, Cl (VI.run PR 38) 24 [dN m, dN (b - 1)] w (.ok (dQ ((m : Rat) / ((b : Rat) - 1))) w) := fun w => by
    have := llo (k := 35) (w := w) (t := (m : Int)) (b := ((b - 1 : Nat) : Int)) (n := 10) (by omega) (by omega) (by omega) (by decide)
    rw [Rat.intCast_natCast, Rat.intCast_natCast, cast_pred (by omega)] at this
    exact this
  have lk1 := fun w => B.like_cl (P := PR) (is := 21) (il := 22) (k := 34) (w := w) rfl rfl 2 (.lst [dN st, dQ V, dQ V, dQ ((m : Rat) / ((b : Rat) - 1)), .tup [.int 1, dN b]]) rfl
  have ct : Ctd (dL (al b m)) none (some ((m - 1 : Nat) : Int)) (dL (al b (m - 1))) := ⟨by
    show some (D.tup (cut ((al b m).map dQ) none (some ((m - 1 : Nat) : Int)))) = _
    refine congrArg (fun l => some (D.tup l)) ?_
    unfold cut
    have e1 : sIx ((al b m).map dQ).length ((al b m).map dQ).length (some ((m - 1 : Nat) : Int)) = m - 1 := by
      show (if ((m - 1 : Nat) : Int) < 0 then (((m - 1 : Nat) : Int) + ((al b m).map dQ).length).toNat else min ((m - 1 : Nat) : Int).toNat ((al b m).map dQ).length) = m - 1
      rw [if_neg (by omega), Int.toNat_natCast, List.length_map, cl]
      omega
    have e2 : sIx ((al b m).map dQ).length 0 none = 0 := rfl
    rw [e1, e2, List.drop_zero, ← List.map_take]
    congr 1
    rw [List.take_replicate]
    congr 1
    omega⟩
  have cs : Bop .add (dL (al b (m - 1))) (.tup [.tup [.int 1, .int 1]]) (dL (su b (m - 1))) := by
    have := cat_tup (xs := (al b (m - 1)).map dQ) (ys := [D.tup [.int 1, .int 1]]) (by rw [List.length_map, List.length_replicate]; show m - 1 + 1 ≤ 5000; omega)
    rw [show dL (su b (m - 1)) = .tup ((al b (m - 1)).map dQ ++ [D.tup [.int 1, .int 1]]) from congrArg D.tup (by unfold su; rw [List.map_append]; rfl)]
    exact this
  have hs := su_chs (b := b) (k := m - 1) (by omega) b30
  have sl : (su b (m - 1)).length = m := by unfold su; rw [List.length_append, List.length_replicate]; show m - 1 + 1 = m; omega
  obtain ⟨s1, s2⟩ := su_best (b := b) (k := m - 1) (by omega) b30
  have h16 := fun w => first_cl (k := 33) (c := su b (m - 1)) (w := w) hs (by rw [sl]; exact m1) (by rw [sl]; exact m40)
  rw [s1] at h16
  have h15 := fun w => greatest_cl (k := 32) (c := su b (m - 1)) (w := w) hs (by rw [sl]; exact m1) (by rw [sl]; exact m40)
  rw [s2] at h15
  have h18 := fun w => from_cl (k := 32) (s := 0) (c := su b (m - 1)) (w := w) hs (by rw [sl]; omega) (by rw [sl]; exact m40)
  rw [List.drop_zero, su_odd b2] at h18
  have h18 : ∀ w, Cl (VI.run PR 38) 18 [dL (su b (m - 1)), .int 0] w (.ok .non w) := h18
  have h15 : ∀ w, Cl (VI.run PR 38) 15 [dL (su b (m - 1))] w (.ok (.tup [.int 1, .int 1]) w) := h15
  have lk2 := fun w => B.like_cl (P := PR) (is := 21) (il := 22) (k := 34) (w := w) rfl rfl 2 (.lst [dN (m - 1), .tup [.int 1, .int 1], .non]) rfl
  refine ⟨w2, r_ret rfl rfl rfl ?_, c2⟩
  refine s_par (ds := [dN b, dN m]) (w1 := w2) (env' := [some .cup, some (dN b), some (dN m), none, none, none, none, none, none, none, none, none]) ?_ rfl ?_
  · repeat' (first | exact x1 | exact a1 | exact x2 | exact a2 | exact v_con | exact v_nil | refine' v_var ?_ | exact Get.mk rfl | refine' v_cons ?_ ?_ | refine' v_tup ?_ | refine' v_lst ?_ | refine' v_neg ?_ ?_ | refine' v_not ?_ ?_ | refine' v_bin ?_ ?_ ?_ | refine' v_cmp ?_ ?_ ?_ | refine' v_and ?_ ?_ | refine' v_or ?_ ?_ | refine' v_ite ?_ ?_ | refine' v_chain ?_ ?_ ?_ ?_ | refine' v_bi ?_ ?_ | refine' v_idx ?_ ?_ ?_ | refine' v_isi ?_ ?_ | refine' v_slLo ?_ ?_ ?_ | refine' v_slHi ?_ ?_ ?_ | refine' v_slBo ?_ ?_ ?_ ?_ | refine' v_mjoin ?_ ?_ ?_ | refine' v_call ?_ ?_ | refine' v_callv ?_ ?_ ?_ ?_ | refine' v_err ?_ ?_ | exact Tru.mk rfl | refine' AndV.t (Tru.mk rfl) _ _ ?_ | exact AndV.f (Tru.mk rfl) | refine' OrV.f (Tru.mk rfl) _ _ ?_ | exact OrV.t (Tru.mk rfl) | refine' ChV.t (Tru.mk rfl) _ _ _ ?_ ?_ | exact ChV.f (Tru.mk rfl) | refine' IteV.t (Tru.mk rfl) ?_ | refine' IteV.f (Tru.mk rfl) ?_ | refine' IteS.t (Tru.mk rfl) ?_ | refine' IteS.f (Tru.mk rfl) ?_ | exact s_nil | exact s_raise | refine' s_ret ?_ | refine' s_asg ?_ rfl ?_ | refine' s_asg ?_ ?_ ?_ | (show VI.bindT _ _ _ = some _; rfl) | refine' s_par ?_ ?_ ?_ | refine' s_expr ?_ ?_ | refine' s_ite ?_ ?_ | refine' s_app ?_ ?_ ?_ ?_ | refine' q_nil ?_ | refine' q_ret ?_ | exact q_raise | refine' q_asg ?_ rfl ?_ | refine' q_asg ?_ ?_ ?_ | refine' q_par ?_ ?_ ?_ | refine' q_expr ?_ ?_ | refine' q_ite ?_ | exact o_add | exact o_sub | refine' o_mul ?_ | refine' o_fdiv ?_ | refine' o_mod ?_ | exact o_neg | exact o_abs | exact o_int | exact o_gcd | exact o_lenT | exact o_lenL | exact o_eqI | exact o_ltI | exact o_leI | exact o_gtI | exact o_geI | exact o_neI | (show VI.setParts _ _ _ = some _; rfl) | (show VI.isSeq _ = some _; rfl) | exact Bop.mk rfl | exact Cop.mk rfl | exact Bin.mk rfl | exact Ngd.mk rfl | exact Isd.mk rfl | exact Idx.mk rfl | exact Ctd.mk rfl | exact Jnd.mk rfl)
  refine s_asg (w1 := w2) (d := dL (al b m)) ?_ rfl ?_
  · repeat' (first | exact a3 | exact v_con | exact v_nil | refine' v_var ?_ | exact Get.mk rfl | refine' v_cons ?_ ?_ | refine' v_tup ?_ | refine' v_lst ?_ | refine' v_neg ?_ ?_ | refine' v_not ?_ ?_ | refine' v_bin ?_ ?_ ?_ | refine' v_cmp ?_ ?_ ?_ | refine' v_and ?_ ?_ | refine' v_or ?_ ?_ | refine' v_ite ?_ ?_ | refine' v_chain ?_ ?_ ?_ ?_ | refine' v_bi ?_ ?_ | refine' v_idx ?_ ?_ ?_ | refine' v_isi ?_ ?_ | refine' v_slLo ?_ ?_ ?_ | refine' v_slHi ?_ ?_ ?_ | refine' v_slBo ?_ ?_ ?_ ?_ | refine' v_mjoin ?_ ?_ ?_ | refine' v_call ?_ ?_ | refine' v_callv ?_ ?_ ?_ ?_ | refine' v_err ?_ ?_ | exact Tru.mk rfl | refine' AndV.t (Tru.mk rfl) _ _ ?_ | exact AndV.f (Tru.mk rfl) | refine' OrV.f (Tru.mk rfl) _ _ ?_ | exact OrV.t (Tru.mk rfl) | refine' ChV.t (Tru.mk rfl) _ _ _ ?_ ?_ | exact ChV.f (Tru.mk rfl) | refine' IteV.t (Tru.mk rfl) ?_ | refine' IteV.f (Tru.mk rfl) ?_ | refine' IteS.t (Tru.mk rfl) ?_ | refine' IteS.f (Tru.mk rfl) ?_ | exact s_nil | exact s_raise | refine' s_ret ?_ | refine' s_asg ?_ rfl ?_ | refine' s_asg ?_ ?_ ?_ | (show VI.bindT _ _ _ = some _; rfl) | refine' s_par ?_ ?_ ?_ | refine' s_expr ?_ ?_ | refine' s_ite ?_ ?_ | refine' s_app ?_ ?_ ?_ ?_ | refine' q_nil ?_ | refine' q_ret ?_ | exact q_raise | refine' q_asg ?_ rfl ?_ | refine' q_asg ?_ ?_ ?_ | refine' q_par ?_ ?_ ?_ | refine' q_expr ?_ ?_ | refine' q_ite ?_ | exact o_add | exact o_sub | refine' o_mul ?_ | refine' o_fdiv ?_ | refine' o_mod ?_ | exact o_neg | exact o_abs | exact o_int | exact o_gcd | exact o_lenT | exact o_lenL | exact o_eqI | exact o_ltI | exact o_leI | exact o_gtI | exact o_geI | exact o_neI | (show VI.setParts _ _ _ = some _; rfl) | (show VI.isSeq _ = some _; rfl) | exact Bop.mk rfl | exact Cop.mk rfl | exact Bin.mk rfl | exact Ngd.mk rfl | exact Isd.mk rfl | exact Idx.mk rfl | exact Ctd.mk rfl | exact Jnd.mk rfl)
  refine s_asg (w1 := w2) (d := dN st) ?_ rfl ?_
  · repeat' (first | exact a4 | exact v_con | exact v_nil | refine' v_var ?_ | exact Get.mk rfl | refine' v_cons ?_ ?_ | refine' v_tup ?_ | refine' v_lst ?_ | refine' v_neg ?_ ?_ | refine' v_not ?_ ?_ | refine' v_bin ?_ ?_ ?_ | refine' v_cmp ?_ ?_ ?_ | refine' v_and ?_ ?_ | refine' v_or ?_ ?_ | refine' v_ite ?_ ?_ | refine' v_chain ?_ ?_ ?_ ?_ | refine' v_bi ?_ ?_ | refine' v_idx ?_ ?_ ?_ | refine' v_isi ?_ ?_ | refine' v_slLo ?_ ?_ ?_ | refine' v_slHi ?_ ?_ ?_ | refine' v_slBo ?_ ?_ ?_ ?_ | refine' v_mjoin ?_ ?_ ?_ | refine' v_call ?_ ?_ | refine' v_callv ?_ ?_ ?_ ?_ | refine' v_err ?_ ?_ | exact Tru.mk rfl | refine' AndV.t (Tru.mk rfl) _ _ ?_ | exact AndV.f (Tru.mk rfl) | refine' OrV.f (Tru.mk rfl) _ _ ?_ | exact OrV.t (Tru.mk rfl) | refine' ChV.t (Tru.mk rfl) _ _ _ ?_ ?_ | exact ChV.f (Tru.mk rfl) | refine' IteV.t (Tru.mk rfl) ?_ | refine' IteV.f (Tru.mk rfl) ?_ | refine' IteS.t (Tru.mk rfl) ?_ | refine' IteS.f (Tru.mk rfl) ?_ | exact s_nil | exact s_raise | refine' s_ret ?_ | refine' s_asg ?_ rfl ?_ | refine' s_asg ?_ ?_ ?_ | (show VI.bindT _ _ _ = some _; rfl) | refine' s_par ?_ ?_ ?_ | refine' s_expr ?_ ?_ | refine' s_ite ?_ ?_ | refine' s_app ?_ ?_ ?_ ?_ | refine' q_nil ?_ | refine' q_ret ?_ | exact q_raise | refine' q_asg ?_ rfl ?_ | refine' q_asg ?_ ?_ ?_ | refine' q_par ?_ ?_ ?_ | refine' q_expr ?_ ?_ | refine' q_ite ?_ | exact o_add | exact o_sub | refine' o_mul ?_ | refine' o_fdiv ?_ | refine' o_mod ?_ | exact o_neg | exact o_abs | exact o_int | exact o_gcd | exact o_lenT | exact o_lenL | exact o_eqI | exact o_ltI | exact o_leI | exact o_gtI | exact o_geI | exact o_neI | (show VI.setParts _ _ _ = some _; rfl) | (show VI.isSeq _ = some _; rfl) | exact Bop.mk rfl | exact Cop.mk rfl | exact Bin.mk rfl | exact Ngd.mk rfl | exact Isd.mk rfl | exact Idx.mk rfl | exact Ctd.mk rfl | exact Jnd.mk rfl)
  refine s_asg (w1 := w2) (d := dN (k + 1)) ?_ rfl ?_
  · repeat' (first | exact a5 | exact v_con | exact v_nil | refine' v_var ?_ | exact Get.mk rfl | refine' v_cons ?_ ?_ | refine' v_tup ?_ | refine' v_lst ?_ | refine' v_neg ?_ ?_ | refine' v_not ?_ ?_ | refine' v_bin ?_ ?_ ?_ | refine' v_cmp ?_ ?_ ?_ | refine' v_and ?_ ?_ | refine' v_or ?_ ?_ | refine' v_ite ?_ ?_ | refine' v_chain ?_ ?_ ?_ ?_ | refine' v_bi ?_ ?_ | refine' v_idx ?_ ?_ ?_ | refine' v_isi ?_ ?_ | refine' v_slLo ?_ ?_ ?_ | refine' v_slHi ?_ ?_ ?_ | refine' v_slBo ?_ ?_ ?_ ?_ | refine' v_mjoin ?_ ?_ ?_ | refine' v_call ?_ ?_ | refine' v_callv ?_ ?_ ?_ ?_ | refine' v_err ?_ ?_ | exact Tru.mk rfl | refine' AndV.t (Tru.mk rfl) _ _ ?_ | exact AndV.f (Tru.mk rfl) | refine' OrV.f (Tru.mk rfl) _ _ ?_ | exact OrV.t (Tru.mk rfl) | refine' ChV.t (Tru.mk rfl) _ _ _ ?_ ?_ | exact ChV.f (Tru.mk rfl) | refine' IteV.t (Tru.mk rfl) ?_ | refine' IteV.f (Tru.mk rfl) ?_ | refine' IteS.t (Tru.mk rfl) ?_ | refine' IteS.f (Tru.mk rfl) ?_ | exact s_nil | exact s_raise | refine' s_ret ?_ | refine' s_asg ?_ rfl ?_ | refine' s_asg ?_ ?_ ?_ | (show VI.bindT _ _ _ = some _; rfl) | refine' s_par ?_ ?_ ?_ | refine' s_expr ?_ ?_ | refine' s_ite ?_ ?_ | refine' s_app ?_ ?_ ?_ ?_ | refine' q_nil ?_ | refine' q_ret ?_ | exact q_raise | refine' q_asg ?_ rfl ?_ | refine' q_asg ?_ ?_ ?_ | refine' q_par ?_ ?_ ?_ | refine' q_expr ?_ ?_ | refine' q_ite ?_ | exact o_add | exact o_sub | refine' o_mul ?_ | refine' o_fdiv ?_ | refine' o_mod ?_ | exact o_neg | exact o_abs | exact o_int | exact o_gcd | exact o_lenT | exact o_lenL | exact o_eqI | exact o_ltI | exact o_leI | exact o_gtI | exact o_geI | exact o_neI | (show VI.setParts _ _ _ = some _; rfl) | (show VI.isSeq _ = some _; rfl) | exact Bop.mk rfl | exact Cop.mk rfl | exact Bin.mk rfl | exact Ngd.mk rfl | exact Isd.mk rfl | exact Idx.mk rfl | exact Ctd.mk rfl | exact Jnd.mk rfl)
  refine s_par (ds := [.int 1, .int 1]) (w1 := w2) (env' := [some .cup, some (dN b), some (dN m), some (dL (al b m)), some (dN st), some (dN (k + 1)), some (dN (tpN b 0)), some (dN (btN b 0)), none, none, none, none]) ?_ rfl ?_
  · repeat' (first | exact v_con | exact v_nil | refine' v_var ?_ | exact Get.mk rfl | refine' v_cons ?_ ?_ | refine' v_tup ?_ | refine' v_lst ?_ | refine' v_neg ?_ ?_ | refine' v_not ?_ ?_ | refine' v_bin ?_ ?_ ?_ | refine' v_cmp ?_ ?_ ?_ | refine' v_and ?_ ?_ | refine' v_or ?_ ?_ | refine' v_ite ?_ ?_ | refine' v_chain ?_ ?_ ?_ ?_ | refine' v_bi ?_ ?_ | refine' v_idx ?_ ?_ ?_ | refine' v_isi ?_ ?_ | refine' v_slLo ?_ ?_ ?_ | refine' v_slHi ?_ ?_ ?_ | refine' v_slBo ?_ ?_ ?_ ?_ | refine' v_mjoin ?_ ?_ ?_ | refine' v_call ?_ ?_ | refine' v_callv ?_ ?_ ?_ ?_ | refine' v_err ?_ ?_ | exact Tru.mk rfl | refine' AndV.t (Tru.mk rfl) _ _ ?_ | exact AndV.f (Tru.mk rfl) | refine' OrV.f (Tru.mk rfl) _ _ ?_ | exact OrV.t (Tru.mk rfl) | refine' ChV.t (Tru.mk rfl) _ _ _ ?_ ?_ | exact ChV.f (Tru.mk rfl) | refine' IteV.t (Tru.mk rfl) ?_ | refine' IteV.f (Tru.mk rfl) ?_ | refine' IteS.t (Tru.mk rfl) ?_ | refine' IteS.f (Tru.mk rfl) ?_ | exact s_nil | exact s_raise | refine' s_ret ?_ | refine' s_asg ?_ rfl ?_ | refine' s_asg ?_ ?_ ?_ | (show VI.bindT _ _ _ = some _; rfl) | refine' s_par ?_ ?_ ?_ | refine' s_expr ?_ ?_ | refine' s_ite ?_ ?_ | refine' s_app ?_ ?_ ?_ ?_ | refine' q_nil ?_ | refine' q_ret ?_ | exact q_raise | refine' q_asg ?_ rfl ?_ | refine' q_asg ?_ ?_ ?_ | refine' q_par ?_ ?_ ?_ | refine' q_expr ?_ ?_ | refine' q_ite ?_ | exact o_add | exact o_sub | refine' o_mul ?_ | refine' o_fdiv ?_ | refine' o_mod ?_ | exact o_neg | exact o_abs | exact o_int | exact o_gcd | exact o_lenT | exact o_lenL | exact o_eqI | exact o_ltI | exact o_leI | exact o_gtI | exact o_geI | exact o_neI | (show VI.setParts _ _ _ = some _; rfl) | (show VI.isSeq _ = some _; rfl) | exact Bop.mk rfl | exact Cop.mk rfl | exact Bin.mk rfl | exact Ngd.mk rfl | exact Isd.mk rfl | exact Idx.mk rfl | exact Ctd.mk rfl | exact Jnd.mk rfl)
  refine s_for (d := .lst ((List.range k).map dN)) (w1 := w2) ?_ rfl g ?_
  · repeat' (first | exact a6 | exact range_up (by omega) | exact v_con | exact v_nil | refine' v_var ?_ | exact Get.mk rfl | refine' v_cons ?_ ?_ | refine' v_tup ?_ | refine' v_lst ?_ | refine' v_neg ?_ ?_ | refine' v_not ?_ ?_ | refine' v_bin ?_ ?_ ?_ | refine' v_cmp ?_ ?_ ?_ | refine' v_and ?_ ?_ | refine' v_or ?_ ?_ | refine' v_ite ?_ ?_ | refine' v_chain ?_ ?_ ?_ ?_ | refine' v_bi ?_ ?_ | refine' v_idx ?_ ?_ ?_ | refine' v_isi ?_ ?_ | refine' v_slLo ?_ ?_ ?_ | refine' v_slHi ?_ ?_ ?_ | refine' v_slBo ?_ ?_ ?_ ?_ | refine' v_mjoin ?_ ?_ ?_ | refine' v_call ?_ ?_ | refine' v_callv ?_ ?_ ?_ ?_ | refine' v_err ?_ ?_ | exact Tru.mk rfl | refine' AndV.t (Tru.mk rfl) _ _ ?_ | exact AndV.f (Tru.mk rfl) | refine' OrV.f (Tru.mk rfl) _ _ ?_ | exact OrV.t (Tru.mk rfl) | refine' ChV.t (Tru.mk rfl) _ _ _ ?_ ?_ | exact ChV.f (Tru.mk rfl) | refine' IteV.t (Tru.mk rfl) ?_ | refine' IteV.f (Tru.mk rfl) ?_ | refine' IteS.t (Tru.mk rfl) ?_ | refine' IteS.f (Tru.mk rfl) ?_ | exact s_nil | exact s_raise | refine' s_ret ?_ | refine' s_asg ?_ rfl ?_ | refine' s_asg ?_ ?_ ?_ | (show VI.bindT _ _ _ = some _; rfl) | refine' s_par ?_ ?_ ?_ | refine' s_expr ?_ ?_ | refine' s_ite ?_ ?_ | refine' s_app ?_ ?_ ?_ ?_ | refine' q_nil ?_ | refine' q_ret ?_ | exact q_raise | refine' q_asg ?_ rfl ?_ | refine' q_asg ?_ ?_ ?_ | refine' q_par ?_ ?_ ?_ | refine' q_expr ?_ ?_ | refine' q_ite ?_ | exact o_add | exact o_sub | refine' o_mul ?_ | refine' o_fdiv ?_ | refine' o_mod ?_ | exact o_neg | exact o_abs | exact o_int | exact o_gcd | exact o_lenT | exact o_lenL | exact o_eqI | exact o_ltI | exact o_leI | exact o_gtI | exact o_geI | exact o_neI | (show VI.setParts _ _ _ = some _; rfl) | (show VI.isSeq _ = some _; rfl) | exact Bop.mk rfl | exact Cop.mk rfl | exact Bin.mk rfl | exact Ngd.mk rfl | exact Isd.mk rfl | exact Idx.mk rfl | exact Ctd.mk rfl | exact Jnd.mk rfl)
  repeat' (first | exact f16 _ | exact f14 _ | exact f15 _ | exact f18 _ | exact a7 | exact f14b _ | exact n1 | exact n2 | exact q1 _ | exact a8 | exact q2 _ | exact lk1 _ | exact ct | exact cs | exact h16 _ | exact h15 _ | exact h18 _ | exact lk2 _ | exact v_con | exact v_nil | refine' v_var ?_ | exact Get.mk rfl | refine' v_cons ?_ ?_ | refine' v_tup ?_ | refine' v_lst ?_ | refine' v_neg ?_ ?_ | refine' v_not ?_ ?_ | refine' v_bin ?_ ?_ ?_ | refine' v_cmp ?_ ?_ ?_ | refine' v_and ?_ ?_ | refine' v_or ?_ ?_ | refine' v_ite ?_ ?_ | refine' v_chain ?_ ?_ ?_ ?_ | refine' v_bi ?_ ?_ | refine' v_idx ?_ ?_ ?_ | refine' v_isi ?_ ?_ | refine' v_slLo ?_ ?_ ?_ | refine' v_slHi ?_ ?_ ?_ | refine' v_slBo ?_ ?_ ?_ ?_ | refine' v_mjoin ?_ ?_ ?_ | refine' v_call ?_ ?_ | refine' v_callv ?_ ?_ ?_ ?_ | refine' v_err ?_ ?_ | exact Tru.mk rfl | refine' AndV.t (Tru.mk rfl) _ _ ?_ | exact AndV.f (Tru.mk rfl) | refine' OrV.f (Tru.mk rfl) _ _ ?_ | exact OrV.t (Tru.mk rfl) | refine' ChV.t (Tru.mk rfl) _ _ _ ?_ ?_ | exact ChV.f (Tru.mk rfl) | refine' IteV.t (Tru.mk rfl) ?_ | refine' IteV.f (Tru.mk rfl) ?_ | refine' IteS.t (Tru.mk rfl) ?_ | refine' IteS.f (Tru.mk rfl) ?_ | exact s_nil | exact s_raise | refine' s_ret ?_ | refine' s_asg ?_ rfl ?_ | refine' s_asg ?_ ?_ ?_ | (show VI.bindT _ _ _ = some _; rfl) | refine' s_par ?_ ?_ ?_ | refine' s_expr ?_ ?_ | refine' s_ite ?_ ?_ | refine' s_app ?_ ?_ ?_ ?_ | refine' q_nil ?_ | refine' q_ret ?_ | exact q_raise | refine' q_asg ?_ rfl ?_ | refine' q_asg ?_ ?_ ?_ | refine' q_par ?_ ?_ ?_ | refine' q_expr ?_ ?_ | refine' q_ite ?_ | exact o_add | exact o_sub | refine' o_mul ?_ | refine' o_fdiv ?_ | refine' o_mod ?_ | exact o_neg | exact o_abs | exact o_int | exact o_gcd | exact o_lenT | exact o_lenL | exact o_eqI | exact o_ltI | exact o_leI | exact o_gtI | exact o_geI | exact o_neI | (show VI.setParts _ _ _ = some _; rfl) | (show VI.isSeq _ = some _; rfl) | exact Bop.mk rfl | exact Cop.mk rfl | exact Bin.mk rfl | exact Ngd.mk rfl | exact Isd.mk rfl | exact Idx.mk rfl | exact Ctd.mk rfl | exact Jnd.mk rfl)
end K28
end
section
set_option maxRecDepth 1000000
set_option maxHeartbeats 8000000
namespace K28
open PySem VI VI.Q
def turnB : Ss := forB (nthS 0 lawBody)
theorem turn_run {w : List D} {x : D} {t : Option D} (hw : B.Cup w) : ∃ w', execs (VI.run PR 39) (etOf PR) (PR.fns.map Fn.ar) turnB [none, some .cup, some x] w = .ok (.nx [none, some .cup, some x]) w' ∧ B.Cup w' := by
  obtain ⟨i, y, w1, e1, hy, c1⟩ := B.some_cl (P := PR) (ir := 19) (iso := 20) (k := 37) (t := .lst [dN 6, dN 14]) (xs := [dN 6, dN 14]) rfl rfl (.inl rfl) hw (by simp) (by simp)
  have hb : ∃ b : Nat, y = dN b ∧ 0 < b ∧ b ≤ 14 := by
    match i with
    | 0 => cases hy; exact ⟨6, rfl, by decide, by decide⟩
    | 1 => cases hy; exact ⟨14, rfl, by decide, by decide⟩
    | i + 2 => cases hy
  obtain ⟨b, rfl, b0, b14⟩ := hb
  obtain ⟨r1, w2, e2, l2, c2⟩ := rollN (k := 38) c1 b0 (by omega)
  obtain ⟨i3, y3, w3, e3, hy3, c3⟩ := B.some_cl (P := PR) (ir := 19) (iso := 20) (k := 37) (t := .lst [dN 2, dN 5, dN 30]) (xs := [dN 2, dN 5, dN 30]) rfl rfl (.inl rfl) c2 (by simp) (by simp)
  have hb3 : ∃ b : Nat, y3 = dN b ∧ 1 ≤ b ∧ b ≤ 30 := by
    match i3 with
    | 0 => cases hy3; exact ⟨2, rfl, by decide, by decide⟩
    | 1 => cases hy3; exact ⟨5, rfl, by decide, by decide⟩
    | 2 => cases hy3; exact ⟨30, rfl, by decide, by decide⟩
    | i + 3 => cases hy3
  obtain ⟨b3, rfl, b31, b32⟩ := hb3
  obtain ⟨c, w4, e4, l4, h4, c4⟩ := chances_cl (k := 35) (long := 1 + r1) (b := b3) (w := w3) b31 b32 (by omega) c3
  obtain ⟨w5, e5, c5⟩ := right_cl (c := c) (w := w4) h4 (by omega) (by omega) c4
  rw [show dN (1 + r1) = .int (1 + (r1 : Int)) from congrArg D.int (by omega)] at e4
  refine ⟨w5, Xs.q ?_, c5⟩
  repeat' (first | exact e1 | exact e2 | exact e3 | exact e4 | exact e5 | exact v_con | exact v_nil | refine' v_var ?_ | exact Get.mk rfl | refine' v_cons ?_ ?_ | refine' v_tup ?_ | refine' v_lst ?_ | refine' v_neg ?_ ?_ | refine' v_not ?_ ?_ | refine' v_bin ?_ ?_ ?_ | refine' v_cmp ?_ ?_ ?_ | refine' v_and ?_ ?_ | refine' v_or ?_ ?_ | refine' v_ite ?_ ?_ | refine' v_chain ?_ ?_ ?_ ?_ | refine' v_bi ?_ ?_ | refine' v_idx ?_ ?_ ?_ | refine' v_isi ?_ ?_ | refine' v_slLo ?_ ?_ ?_ | refine' v_slHi ?_ ?_ ?_ | refine' v_slBo ?_ ?_ ?_ ?_ | refine' v_mjoin ?_ ?_ ?_ | refine' v_call ?_ ?_ | refine' v_callv ?_ ?_ ?_ ?_ | refine' v_err ?_ ?_ | exact Tru.mk rfl | refine' AndV.t (Tru.mk rfl) _ _ ?_ | exact AndV.f (Tru.mk rfl) | refine' OrV.f (Tru.mk rfl) _ _ ?_ | exact OrV.t (Tru.mk rfl) | refine' ChV.t (Tru.mk rfl) _ _ _ ?_ ?_ | exact ChV.f (Tru.mk rfl) | refine' IteV.t (Tru.mk rfl) ?_ | refine' IteV.f (Tru.mk rfl) ?_ | refine' IteS.t (Tru.mk rfl) ?_ | refine' IteS.f (Tru.mk rfl) ?_ | exact s_nil | exact s_raise | refine' s_ret ?_ | refine' s_asg ?_ rfl ?_ | refine' s_asg ?_ ?_ ?_ | (show VI.bindT _ _ _ = some _; rfl) | refine' s_par ?_ ?_ ?_ | refine' s_expr ?_ ?_ | refine' s_ite ?_ ?_ | refine' s_app ?_ ?_ ?_ ?_ | refine' q_nil ?_ | refine' q_ret ?_ | exact q_raise | refine' q_asg ?_ rfl ?_ | refine' q_asg ?_ ?_ ?_ | refine' q_par ?_ ?_ ?_ | refine' q_expr ?_ ?_ | refine' q_ite ?_ | exact o_add | exact o_sub | refine' o_mul ?_ | refine' o_fdiv ?_ | refine' o_mod ?_ | exact o_neg | exact o_abs | exact o_int | exact o_gcd | exact o_lenT | exact o_lenL | exact o_eqI | exact o_ltI | exact o_leI | exact o_gtI | exact o_geI | exact o_neI | (show VI.setParts _ _ _ = some _; rfl) | (show VI.isSeq _ = some _; rfl) | exact Bop.mk rfl | exact Cop.mk rfl | exact Bin.mk rfl | exact Ngd.mk rfl | exact Isd.mk rfl | exact Idx.mk rfl | exact Ctd.mk rfl | exact Jnd.mk rfl)
theorem lawRun : ∀ c : Int, 0 ≤ c → ∃ w', execs (VI.run PR (38 + 1)) (etOf PR) (PR.fns.map Fn.ar) lawBody (lawEnv 3) (cup0 c) = .ok (.ret (.bl true)) w' := by
  intro c hc
  obtain ⟨env2, w2, e2, t, rfl, c2⟩ := for_inv (f := fun d env => M.bind (liftO (bindT (.nm 2) d env)) fun env' => execs (VI.run PR 39) (etOf PR) (PR.fns.map Fn.ar) turnB env')
    (fun _ env w => ∃ (t : Option D), env = [none, some .cup, t] ∧ B.Cup w) ((List.range 6).map dN) 0 [none, some .cup, none] (cup0 c) ⟨none, rfl, B.cup0_ok hc⟩ (by
      rintro j env w x ⟨t, rfl, cw⟩ _
      obtain ⟨w', e, c'⟩ := turn_run (x := x) (t := t) cw
      have st : M.bind (liftO (bindT (.nm 2) x [none, some .cup, t])) (fun env' => execs (VI.run PR 39) (etOf PR) (PR.fns.map Fn.ar) turnB env') w = .ok (.nx [none, some .cup, some x]) w' := by
        refine bind_ok' (a := [none, some .cup, some x]) (w1 := w) ?_ ?_
        · rfl
        · exact e
      exact ⟨_, w', st, some x, rfl, c'⟩)
  obtain ⟨w3, e3, c3⟩ := great_cl c2
  refine ⟨w3, Xs.q ?_⟩
  show Xs (VI.run PR 39) (etOf PR) (PR.fns.map Fn.ar) lawBody [none, some .cup, none] (cup0 c) _
  repeat' (first | (refine' s_for ?_ ?_ e2 ?_) | exact range_up (n := 6) (by decide) | exact writ_cl _ | exact errs_cl _ | exact e3 | exact v_con | exact v_nil | refine' v_var ?_ | exact Get.mk rfl | refine' v_cons ?_ ?_ | refine' v_tup ?_ | refine' v_lst ?_ | refine' v_neg ?_ ?_ | refine' v_not ?_ ?_ | refine' v_bin ?_ ?_ ?_ | refine' v_cmp ?_ ?_ ?_ | refine' v_and ?_ ?_ | refine' v_or ?_ ?_ | refine' v_ite ?_ ?_ | refine' v_chain ?_ ?_ ?_ ?_ | refine' v_bi ?_ ?_ | refine' v_idx ?_ ?_ ?_ | refine' v_isi ?_ ?_ | refine' v_slLo ?_ ?_ ?_ | refine' v_slHi ?_ ?_ ?_ | refine' v_slBo ?_ ?_ ?_ ?_ | refine' v_mjoin ?_ ?_ ?_ | refine' v_call ?_ ?_ | refine' v_callv ?_ ?_ ?_ ?_ | refine' v_err ?_ ?_ | exact Tru.mk rfl | refine' AndV.t (Tru.mk rfl) _ _ ?_ | exact AndV.f (Tru.mk rfl) | refine' OrV.f (Tru.mk rfl) _ _ ?_ | exact OrV.t (Tru.mk rfl) | refine' ChV.t (Tru.mk rfl) _ _ _ ?_ ?_ | exact ChV.f (Tru.mk rfl) | refine' IteV.t (Tru.mk rfl) ?_ | refine' IteV.f (Tru.mk rfl) ?_ | refine' IteS.t (Tru.mk rfl) ?_ | refine' IteS.f (Tru.mk rfl) ?_ | exact s_nil | exact s_raise | refine' s_ret ?_ | refine' s_asg ?_ rfl ?_ | refine' s_asg ?_ ?_ ?_ | (show VI.bindT _ _ _ = some _; rfl) | refine' s_par ?_ ?_ ?_ | refine' s_expr ?_ ?_ | refine' s_ite ?_ ?_ | refine' s_app ?_ ?_ ?_ ?_ | refine' q_nil ?_ | refine' q_ret ?_ | exact q_raise | refine' q_asg ?_ rfl ?_ | refine' q_asg ?_ ?_ ?_ | refine' q_par ?_ ?_ ?_ | refine' q_expr ?_ ?_ | refine' q_ite ?_ | exact o_add | exact o_sub | refine' o_mul ?_ | refine' o_fdiv ?_ | refine' o_mod ?_ | exact o_neg | exact o_abs | exact o_int | exact o_gcd | exact o_lenT | exact o_lenL | exact o_eqI | exact o_ltI | exact o_leI | exact o_gtI | exact o_geI | exact o_neI | (show VI.setParts _ _ _ = some _; rfl) | (show VI.isSeq _ = some _; rfl) | exact Bop.mk rfl | exact Cop.mk rfl | exact Bin.mk rfl | exact Ngd.mk rfl | exact Isd.mk rfl | exact Idx.mk rfl | exact Ctd.mk rfl | exact Jnd.mk rfl)
end K28
end
section
theorem PySem.Challenge.cw_chanceskept_k28_whole_last_of_all_holds : PySem.Challenge.rw_chanceskept_k28_whole_last_of_all.Holds :=
  K28H.holds_of K28.lawRun
end
