import PyProof.Rows.All
import Wide.All
import OpenK.AllK
import Wide.FinOn
import PySem.Challenge.RW_no0028_02
set_option Elab.async false
set_option linter.unusedVariables false
set_option linter.unusedSimpArgs false
set_option maxRecDepth 100000
set_option genSizeOf false
set_option tactic.hygienic false
set_option bootstrap.genMatcherCode false
set_option linter.unusedSimpArgs false
namespace Mine
theorem nosome {α : Type} {a : α} {P : Prop} (h : (none : Option α) = some a) : P := nomatch h
theorem nofalse {P : Prop} (h : false = true) : P := nomatch h
end Mine
namespace Mine
open PySem
inductive V where
  | none
  | bool (b : Bool)
  | int (i : Int)
  | str (s : Str)
  | rng (a b : Int)
  | tup (l : List V)
  | lst (l : List V)
  | ref (i : Nat)
inductive O where
  | dead
  | list (l : List V)
  | dict (l : List (V × V))
  | inst (c : Nat) (l : List (Nat × V))
  | feed (k : Nat)
inductive BM where
  | append | extend | pop | get
inductive Bi where
  | abs | len | min | max | sum | sorted | tuple | list | int | range
inductive Ty where
  | int | str | tuple | bool
inductive Tg where
  | one (i : Nat)
inductive E where
  | cst (v : V)
  | var (i : Nat)
  | glob (x : Nat) (v : V)
  | nil
  | cons (a b : E)
  | tup (es : E)
  | lst (es : E)
  | lstH (es : E)
  | dictH (ks vs : E)
  | and (a b : E)
  | or (a b : E)
  | not (a : E)
  | neg (a : E)
  | bin (op : Operator) (a b : E)
  | cmp (op : CmpOp) (a b : E)
  | cmp2 (o1 o2 : CmpOp) (a b c : E)
  | cmp3 (o1 o2 o3 : CmpOp) (a b c d : E)
  | ife (t a b : E)
  | attr (e : E) (x : Nat)
  | sub (e i : E)
  | slice (e lo hi : E)
  | rev (e : E)
  | call (f : Nat) (args : E)
  | meth (e : E) (x : Nat) (args : E)
  | new (c : Nat) (args : E)
  | sup (f : Nat)
  | bm (op : BM) (e args : E)
  | bi (op : Bi) (args : E)
  | isi (e : E) (t : Ty)
  | comp (elt : E) (tg : Tg) (it cond : E)
  | bvn (e : E)
inductive S where
  | skip
  | seq (a b : S)
  | asg (i : Nat) (e : E)
  | asgT (is : List Nat) (e : E)
  | setA (o : E) (x : Nat) (e : E)
  | setI (o k e : E)
  | ex (e : E)
  | ite (t : E) (a b : S)
  | whl (t : E) (b : S)
  | forS (tg : Tg) (it : E) (b : S)
  | ret (e : E)
  | retF (i : Nat)
  | cont
  | bad
noncomputable def natsEq : List Nat → List Nat → Bool
  | [], [] => true
  | a :: l, b :: r => Nat.beq a b && natsEq l r
  | _, _ => false
theorem natsEq_iff : ∀ {l r : List Nat}, natsEq l r = true ↔ l = r
  | [], [] => by simp [natsEq]
  | [], _ :: _ => by simp [natsEq]
  | _ :: _, [] => by simp [natsEq]
  | a :: l, b :: r => by
    rw [natsEq, Bool.and_eq_true, natsEq_iff (l := l) (r := r), List.cons.injEq]
    exact and_congr_left fun _ => ⟨Nat.eq_of_beq_eq_true, fun h => h ▸ Nat.beq_refl a⟩
noncomputable def strEq (a b : Str) : Bool := natsEq a.cps.toList b.cps.toList
theorem strEq_iff {a b : Str} : strEq a b = true ↔ a = b := by
  rw [strEq, natsEq_iff]
  constructor
  · intro h
    cases a; (first | exact nosome b | exact nofalse b | cases b)
    simp at h
    simp [h]
  · rintro rfl; rfl
theorem strEq_self (a : Str) : strEq a a = true := strEq_iff.mpr rfl
theorem strEq_ne {a b : Str} (h : a ≠ b) : strEq a b = false := by
  cases q : strEq a b with
  | false => rfl
  | true => exact absurd (strEq_iff.mp q) h
noncomputable def intEq : Int → Int → Bool
  | .ofNat a, .ofNat b => Nat.beq a b
  | .negSucc a, .negSucc b => Nat.beq a b
  | _, _ => false
theorem intEq_iff {a b : Int} : intEq a b = true ↔ a = b := by
  cases a with
  | ofNat a => cases b with
    | ofNat b => simp only [intEq, Nat.beq_eq]; constructor
                 · rintro rfl; rfl
                 · intro h; exact Int.ofNat.inj h
    | negSucc b => simp [intEq]
  | negSucc a => cases b with
    | ofNat b => simp [intEq]
    | negSucc b => simp only [intEq, Nat.beq_eq]; constructor
                   · rintro rfl; rfl
                   · intro h; exact Int.negSucc.inj h
theorem intEq_eq (a b : Int) : intEq a b = decide (a = b) := by
  by_cases h : a = b
  · simp [h, intEq_iff.mpr rfl]
  · simp only [h, decide_false]
    cases q : intEq a b with
    | false => rfl
    | true => exact absurd (intEq_iff.mp q) h
noncomputable def eqsN (f : V → V → Option Bool) : List V → List V → Option Bool
  | [], [] => some true
  | a :: l, b :: r => match f a b, eqsN f l r with
    | some x, some y => some (x && y)
    | _, _ => Option.none
  | [], _ :: _ => some false
  | _ :: _, [] => some false
noncomputable def noRef : V → Option Bool
  | .ref _ => Option.none
  | .rng _ _ => Option.none
  | _ => some false
noncomputable def eqN : Nat → V → V → Option Bool
  | 0, _, _ => Option.none
  | n + 1, x, y => match x with
    | .int a => match y with
      | .int b => some (intEq a b)
      | .bool _ => Option.none
      | y => noRef y
    | .str a => match y with
      | .str b => some (strEq a b)
      | y => noRef y
    | .bool a => match y with
      | .bool b => some (a == b)
      | .int _ => Option.none
      | y => noRef y
    | .tup a => match y with
      | .tup b => eqsN (eqN n) a b
      | y => noRef y
    | .lst a => match y with
      | .lst b => eqsN (eqN n) a b
      | y => noRef y
    | .none => match y with
      | .none => some true
      | y => noRef y
    | _ => Option.none
noncomputable def V.eq? (a b : V) : Option Bool := eqN 6 a b
noncomputable def keyOkN : Nat → V → Bool
  | 0, _ => false
  | n + 1, x => match x with
    | .int _ => true
    | .str _ => true
    | .tup l => l.all (keyOkN n)
    | _ => false
noncomputable def V.keyOk (x : V) : Bool := keyOkN 4 x
noncomputable def allB (f : V → V → Bool) : List V → List V → Bool
  | [], [] => true
  | a :: l, b :: r => match f a b with
    | true => allB f l r
    | false => false
  | _, _ => false
noncomputable def keqN : Nat → V → V → Bool
  | 0, _, _ => false
  | n + 1, x, y => match x with
    | .int a => match y with
      | .int b => intEq a b
      | _ => false
    | .str a => match y with
      | .str b => strEq a b
      | _ => false
    | .tup a => match y with
      | .tup b => allB (keqN n) a b
      | _ => false
    | _ => false
noncomputable def V.keq (x y : V) : Bool := keqN 4 x y
noncomputable def dlook (k : V) : List (V × V) → Option V
  | [] => Option.none
  | p :: l => match V.keq p.1 k with
    | true => some p.2
    | false => dlook k l
noncomputable def dput (k v : V) : List (V × V) → List (V × V)
  | [] => [(k, v)]
  | p :: l => match V.keq p.1 k with
    | true => (p.1, v) :: l
    | false => p :: dput k v l
noncomputable def mkDict : List V → List V → List (V × V) → List (V × V)
  | k :: ks, v :: vs, d => mkDict ks vs (dput k v d)
  | _, _, d => d
noncomputable def alook (x : Nat) : List (Nat × V) → Option V
  | [] => Option.none
  | p :: l => match Nat.beq p.1 x with
    | true => some p.2
    | false => alook x l
noncomputable def aput (x : Nat) (v : V) : List (Nat × V) → List (Nat × V)
  | [] => [(x, v)]
  | p :: l => match Nat.beq p.1 x with
    | true => (p.1, v) :: l
    | false => p :: aput x v l
noncomputable abbrev Hp := List O
noncomputable abbrev Rho := List (Option V)
noncomputable abbrev CallT := Nat → List V → Hp → Option (V × Hp)
structure Pg where
  mt : List (List (Nat × Nat))
  ini : List Nat
noncomputable def nlook (x : Nat) : List (Nat × Nat) → Option Nat
  | [] => Option.none
  | p :: l => match Nat.beq p.1 x with
    | true => some p.2
    | false => nlook x l
noncomputable def Pg.meth (P : Pg) (c x : Nat) : Option Nat := match P.mt[c]? with
  | some l => nlook x l
  | Option.none => Option.none
noncomputable def cap : Nat := 4096
noncomputable def small (a : Int) : Bool := Nat.blt a.natAbs 18446744073709551616
noncomputable def tiny (a : Int) : Bool := Nat.blt a.natAbs 4294967296
noncomputable def nonneg (a : Int) : Bool := match a with | .ofNat _ => true | .negSucc _ => false
noncomputable def listOf (H : Hp) : V → Option (List V)
  | .lst l => some l
  | .ref i => match H[i]? with
    | some (.list l) => some l
    | _ => Option.none
  | _ => Option.none
noncomputable def seqOf (H : Hp) : V → Option (List V)
  | .tup l => some l
  | v => listOf H v
noncomputable def intSeq : Nat → Int → List V
  | 0, _ => []
  | n + 1, a => .int a :: intSeq n (a + 1)
noncomputable def itemsOf : V → Option (List V)
  | .tup l => some l
  | .lst l => some l
  | .rng a b => if Nat.ble (b - a).toNat cap then some (intSeq (b - a).toNat a) else Option.none
  | _ => Option.none
noncomputable def rep : Nat → List V → List V
  | 0, _ => []
  | n + 1, l => l ++ rep n l
noncomputable def int1 {α : Type} (g : Int → Option α) (x : V) : Option α := match x with
  | .int a => g a
  | _ => Option.none
noncomputable def lst1 {α : Type} (g : List V → Option α) (x : V) : Option α := match x with
  | .lst l => g l
  | _ => Option.none
noncomputable def ref1 {α : Type} (g : Nat → Option α) (x : V) : Option α := match x with
  | .ref i => g i
  | _ => Option.none
noncomputable def str1 {α : Type} (g : Str → Option α) (x : V) : Option α := match x with
  | .str a => g a
  | _ => Option.none
noncomputable def ints2 {α : Type} (g : Int → Int → Option α) (x y : V) : Option α := int1 (fun a => int1 (g a) y) x
noncomputable def arg0 {α : Type} (g : Option α) : List V → Option α
  | [] => g
  | _ => Option.none
noncomputable def arg1 {α : Type} (g : V → Option α) : List V → Option α
  | [x] => g x
  | _ => Option.none
noncomputable def arg2 {α : Type} (g : V → V → Option α) : List V → Option α
  | [x, y] => g x y
  | _ => Option.none
noncomputable def ifO {α : Type} (c : Bool) (x : α) : Option α := match c with
  | true => some x
  | false => Option.none
theorem int1_some {α : Type} {g : Int → Option α} {x : V} {r : α} (h : int1 g x = some r) : ∃ a, x = .int a ∧ g a = some r := by
  cases x <;> first | exact ⟨_, rfl, h⟩ | (first | exact nosome h | exact nofalse h | cases h)
theorem lst1_some {α : Type} {g : List V → Option α} {x : V} {r : α} (h : lst1 g x = some r) : ∃ a, x = .lst a ∧ g a = some r := by
  cases x <;> first | exact ⟨_, rfl, h⟩ | (first | exact nosome h | exact nofalse h | cases h)
theorem ref1_some {α : Type} {g : Nat → Option α} {x : V} {r : α} (h : ref1 g x = some r) : ∃ a, x = .ref a ∧ g a = some r := by
  cases x <;> first | exact ⟨_, rfl, h⟩ | (first | exact nosome h | exact nofalse h | cases h)
theorem str1_some {α : Type} {g : Str → Option α} {x : V} {r : α} (h : str1 g x = some r) : ∃ a, x = .str a ∧ g a = some r := by
  cases x <;> first | exact ⟨_, rfl, h⟩ | (first | exact nosome h | exact nofalse h | cases h)
theorem ints2_some {α : Type} {g : Int → Int → Option α} {x y : V} {r : α} (h : ints2 g x y = some r) : ∃ a b, x = .int a ∧ y = .int b ∧ g a b = some r := by
  obtain ⟨a, h1, h2⟩ := int1_some h
  obtain ⟨b, h3, h4⟩ := int1_some h2
  exact ⟨a, b, h1, h3, h4⟩
theorem arg0_some {α : Type} {g : Option α} {l : List V} {r : α} (h : arg0 g l = some r) : l = [] ∧ g = some r := by
  cases l <;> first | exact ⟨rfl, h⟩ | (first | exact nosome h | exact nofalse h | cases h)
theorem arg1_some {α : Type} {g : V → Option α} {l : List V} {r : α} (h : arg1 g l = some r) : ∃ x, l = [x] ∧ g x = some r := by
  match l, h with
  | [x], h => exact ⟨x, rfl, h⟩
theorem arg2_some {α : Type} {g : V → V → Option α} {l : List V} {r : α} (h : arg2 g l = some r) : ∃ x y, l = [x, y] ∧ g x y = some r := by
  match l, h with
  | [x, y], h => exact ⟨x, y, rfl, h⟩
theorem ifO_some {α : Type} {c : Bool} {x r : α} (h : ifO c x = some r) : c = true ∧ x = r := by
  (first | exact nosome c | exact nofalse c | cases c)
  · (first | exact nosome h | exact nofalse h | cases h)
  · cases h; exact ⟨rfl, rfl⟩
noncomputable def addL (H : Hp) (x y : V) : Option V := match listOf H x with
  | some l => match listOf H y with
    | some r => ifO (Nat.ble (l.length + r.length) cap) (V.lst (l ++ r))
    | Option.none => Option.none
  | Option.none => Option.none
theorem addL_some {H : Hp} {x y v : V} (h : addL H x y = some v) : ∃ l r, listOf H x = some l ∧ listOf H y = some r ∧ l.length + r.length ≤ cap ∧ V.lst (l ++ r) = v := by
  unfold addL at h
  cases h1 : listOf H x with
  | none => rw [h1] at h; (first | exact nosome h | exact nofalse h | cases h)
  | some l =>
    cases h2 : listOf H y with
    | none => rw [h1, h2] at h; (first | exact nosome h | exact nofalse h | cases h)
    | some r =>
      rw [h1, h2] at h
      obtain ⟨a, b⟩ := ifO_some h
      exact ⟨l, r, rfl, rfl, Nat.le_of_ble_eq_true a, b⟩
noncomputable def addS (a b : Str) : Option V := ifO (Nat.ble (a.cps.toList.length + b.cps.toList.length) cap) (.str ⟨(a.cps.toList ++ b.cps.toList).toArray⟩)
noncomputable def addV (H : Hp) (x y : V) : Option V := match x with
  | .int a => int1 (fun b => some (.int (a + b))) y
  | .str a => str1 (addS a) y
  | x => addL H x y
noncomputable def mulLV (l : List V) (n : Int) : Option V := ifO (nonneg n && Nat.ble n.toNat cap && Nat.ble (l.length * n.toNat) cap) (.lst (rep n.toNat l))
noncomputable def mulV (x y : V) : Option V := match x with
  | .int a => int1 (fun b => ifO (small a && small b) (.int (a * b))) y
  | .lst l => int1 (mulLV l) y
  | _ => Option.none
noncomputable def binop (H : Hp) (op : Operator) (x y : V) : Option V := match op with
  | .Add => addV H x y
  | .Sub => ints2 (fun a b => some (.int (a - b))) x y
  | .Mult => mulV x y
  | .Mod => ints2 (fun a b => ifO (!(intEq b 0)) (.int (a.fmod b))) x y
  | .Pow => ints2 (fun a b => ifO (small a && nonneg b && Nat.ble b.toNat 1000) (.int (a ^ b.toNat))) x y
  | .LShift => ints2 (fun a b => ifO (small a && nonneg b && Nat.ble b.toNat 1000) (.int (a * 2 ^ b.toNat))) x y
  | _ => Option.none
noncomputable def anyEq (x : V) : List V → Option Bool
  | [] => some false
  | y :: l => match V.eq? y x, anyEq x l with
    | some a, some b => some (a || b)
    | _, _ => Option.none
noncomputable def inOp (H : Hp) (x : V) : V → Option Bool
  | .tup l => anyEq x l
  | .lst l => anyEq x l
  | .ref i => match H[i]? with
    | some (.list l) => anyEq x l
    | some (.dict l) => if x.keyOk then some (dlook x l).isSome else Option.none
    | _ => Option.none
  | _ => Option.none
noncomputable def isNone : V → Bool
  | .none => true
  | _ => false
noncomputable def neOp : V → V → Option Bool
  | .int a, .int b => some (!(intEq a b))
  | .str a, .str b => some (!(strEq a b))
  | .bool a, .bool b => some (a != b)
  | .lst a, .lst b => (eqsN (eqN 5) a b).map (!·)
  | _, _ => Option.none
noncomputable def intCmp (f : Int → Int → Bool) (x y : V) : Option Bool := match x with
  | .int a => match y with
    | .int b => some (f a b)
    | _ => Option.none
  | _ => Option.none
noncomputable def isOp (x y : V) : Option Bool := match y with
  | .none => some (isNone x)
  | _ => Option.none
noncomputable def cmpop (H : Hp) (op : CmpOp) (a b : V) : Option Bool := match op with
  | .Eq => V.eq? a b
  | .NotEq => neOp a b
  | .Lt => intCmp (fun a b => decide (a < b)) a b
  | .LtE => intCmp (fun a b => decide (a ≤ b)) a b
  | .Gt => intCmp (fun a b => decide (a > b)) a b
  | .GtE => intCmp (fun a b => decide (a ≥ b)) a b
  | .Is => isOp a b
  | .IsNot => (isOp a b).map (!·)
  | .In => inOp H a b
  | .NotIn => (inOp H a b).map (!·)
noncomputable def idx (n : Nat) (i : Int) : Option Nat := match i with
  | .ofNat k => if Nat.blt k n && Nat.blt k cap then some k else Option.none
  | .negSucc k => if Nat.blt k n && Nat.blt k cap then some (n - (k + 1)) else Option.none
noncomputable def subOp (H : Hp) (v k : V) : Option V := match v with
  | .tup l => match k with
    | .int i => (idx l.length i).bind fun j => l[j]?
    | _ => Option.none
  | .lst l => match k with
    | .int i => (idx l.length i).bind fun j => l[j]?
    | _ => Option.none
  | .ref r => match H[r]? with
    | some (.list l) => match k with
      | .int i => (idx l.length i).bind fun j => l[j]?
      | _ => Option.none
    | some (.dict l) => if k.keyOk then dlook k l else Option.none
    | _ => Option.none
  | _ => Option.none
noncomputable def cut (l : List V) (lo hi : V) : Option (List V) := match lo, hi with
  | .int (.ofNat a), .none => some (l.drop a)
  | .none, .int (.ofNat b) => some (l.take b)
  | .int (.ofNat a), .int (.ofNat b) => if Nat.ble a b && Nat.ble b l.length then some ((l.drop a).take (b - a)) else Option.none
  | _, _ => Option.none
noncomputable def sliceOp (H : Hp) (v lo hi : V) : Option V := match v with
  | .tup l => match lo, hi with
    | .int (.ofNat (a + 1)), .none => if Nat.ble (a + 1) l.length && Nat.ble l.length cap then some (.tup (l.drop (a + 1))) else Option.none
    | _, _ => Option.none
  | v => match listOf H v with
    | some l => if Nat.ble l.length cap then (cut l lo hi).map .lst else Option.none
    | _ => Option.none
noncomputable def revOp (H : Hp) (v : V) : Option V := match listOf H v with
  | some l => if Nat.ble l.length cap then some (.lst l.reverse) else Option.none
  | _ => Option.none
noncomputable def intsOf : List V → Option (List Int)
  | [] => some []
  | .int a :: l => match intsOf l with
    | some r => some (a :: r)
    | Option.none => Option.none
  | _ :: _ => Option.none
noncomputable def minL : Int → List Int → Int
  | a, [] => a
  | a, b :: l => minL (if b < a then b else a) l
noncomputable def maxL : Int → List Int → Int
  | a, [] => a
  | a, b :: l => maxL (if b > a then b else a) l
noncomputable def insI (a : Int) : List Int → List Int
  | [] => [a]
  | b :: l => if a ≤ b then a :: b :: l else b :: insI a l
noncomputable def sortI : List Int → List Int
  | [] => []
  | a :: l => insI a (sortI l)
noncomputable def sumI : List Int → Int
  | [] => 0
  | a :: l => a + sumI l
noncomputable def seqB (H : Hp) (v : V) (g : List V → Option V) : Option V := match seqOf H v with
  | some l => g l
  | Option.none => Option.none
noncomputable def listB (H : Hp) (v : V) (g : List V → Option V) : Option V := match listOf H v with
  | some l => g l
  | Option.none => Option.none
noncomputable def intsB {α : Type} (l : List V) (g : List Int → Option α) : Option α := match intsOf l with
  | some r => g r
  | Option.none => Option.none
noncomputable def consB {α : Type} (l : List Int) (g : Int → List Int → α) : Option α := match l with
  | a :: r => some (g a r)
  | [] => Option.none
theorem seqB_some {H : Hp} {v u : V} {g : List V → Option V} (h : seqB H v g = some u) : ∃ l, seqOf H v = some l ∧ g l = some u := by
  unfold seqB at h
  cases q : seqOf H v with
  | none => rw [q] at h; (first | exact nosome h | exact nofalse h | cases h)
  | some l => rw [q] at h; exact ⟨l, rfl, h⟩
theorem listB_some {H : Hp} {v u : V} {g : List V → Option V} (h : listB H v g = some u) : ∃ l, listOf H v = some l ∧ g l = some u := by
  unfold listB at h
  cases q : listOf H v with
  | none => rw [q] at h; (first | exact nosome h | exact nofalse h | cases h)
  | some l => rw [q] at h; exact ⟨l, rfl, h⟩
theorem intsB_some {α : Type} {l : List V} {u : α} {g : List Int → Option α} (h : intsB l g = some u) : ∃ r, intsOf l = some r ∧ g r = some u := by
  unfold intsB at h
  cases q : intsOf l with
  | none => rw [q] at h; (first | exact nosome h | exact nofalse h | cases h)
  | some l => rw [q] at h; exact ⟨l, rfl, h⟩
theorem consB_some {α : Type} {l : List Int} {u : α} {g : Int → List Int → α} (h : consB l g = some u) : ∃ a r, l = a :: r ∧ g a r = u := by
  (first | exact nosome l | exact nofalse l | cases l)
  · (first | exact nosome h | exact nofalse h | cases h)
  · cases h; exact ⟨_, _, rfl, rfl⟩
noncomputable def minmax (g : Int → Int → Int) (gl : Int → List Int → Int) : List V → Option V
  | [x] => lst1 (fun l => intsB l fun r => consB r fun a r => .int (gl a r)) x
  | [x, y] => ints2 (fun a b => some (.int (g a b))) x y
  | _ => Option.none
noncomputable def rngB : List V → Option V
  | [x] => int1 (fun b => ifO (small b) (.rng 0 b)) x
  | [x, y] => ints2 (fun a b => ifO (small a && small b) (.rng a b)) x y
  | _ => Option.none
noncomputable def biop (H : Hp) (op : Bi) (l : List V) : Option V := match op with
  | .abs => arg1 (int1 fun a => some (.int a.natAbs)) l
  | .len => arg1 (fun v => seqB H v fun l => ifO (Nat.ble l.length cap) (.int l.length)) l
  | .min => minmax (fun a b => if b < a then b else a) minL l
  | .max => minmax (fun a b => if b > a then b else a) maxL l
  | .sum => arg1 (lst1 fun l => intsB l fun r => ifO (r.all (fun a => Nat.blt a.natAbs 4294967296) && Nat.ble r.length cap) (.int (sumI r))) l
  | .sorted => arg1 (fun v => seqB H v fun l => intsB l fun r => ifO (Nat.blt r.length 64) (.lst ((sortI r).map .int))) l
  | .tuple => arg1 (fun v => seqB H v fun l => ifO (Nat.ble l.length cap) (.tup l)) l
  | .list => arg1 (fun v => listB H v fun l => ifO (Nat.ble l.length cap) (.lst l)) l
  | .int => arg1 (int1 fun a => some (.int a)) l
  | .range => rngB l
noncomputable def tyOp : Ty → V → Option Bool
  | _, .ref _ => Option.none
  | _, .rng _ _ => Option.none
  | .int, .int _ => some true
  | .int, .bool _ => some true
  | .bool, .bool _ => some true
  | .str, .str _ => some true
  | .tuple, .tup _ => some true
  | _, _ => some false
noncomputable def frozenOf : V → Option (List V)
  | .tup l => some l
  | .lst l => some l
  | _ => Option.none
noncomputable def listAt {α : Type} (H : Hp) (i : Nat) (g : List V → Option α) : Option α := match H[i]? with
  | some (.list l) => g l
  | _ => Option.none
noncomputable def dictAt {α : Type} (H : Hp) (i : Nat) (g : List (V × V) → Option α) : Option α := match H[i]? with
  | some (.dict l) => g l
  | _ => Option.none
set_option tactic.hygienic true in
theorem listAt_some {α : Type} {H : Hp} {i : Nat} {g : List V → Option α} {r : α} (h : listAt H i g = some r) : ∃ l, H[i]? = some (.list l) ∧ g l = some r := by
  unfold listAt at h
  split at h
  · rename_i q; exact ⟨_, q, h⟩
  · (first | exact nosome h | exact nofalse h | cases h)
set_option tactic.hygienic true in
theorem dictAt_some {α : Type} {H : Hp} {i : Nat} {g : List (V × V) → Option α} {r : α} (h : dictAt H i g = some r) : ∃ l, H[i]? = some (.dict l) ∧ g l = some r := by
  unfold dictAt at h
  split at h
  · rename_i q; exact ⟨_, q, h⟩
  · (first | exact nosome h | exact nofalse h | cases h)
noncomputable def popL (H : Hp) (i : Nat) (l : List V) : Option (V × Hp) := match l.getLast? with
  | some x => ifO (Nat.ble l.length cap) (x, H.set i (.list l.dropLast))
  | Option.none => Option.none
noncomputable def extL (H : Hp) (i : Nat) (x : V) (l : List V) : Option (V × Hp) := match frozenOf x with
  | some r => ifO (Nat.ble (l.length + r.length) cap) (.none, H.set i (.list (l ++ r)))
  | Option.none => Option.none
noncomputable def bmop (H : Hp) (op : BM) (v : V) (args : List V) : Option (V × Hp) := match op with
  | .append => ref1 (fun i => arg1 (fun x => listAt H i fun l => ifO (Nat.blt l.length cap) (.none, H.set i (.list (l ++ [x])))) args) v
  | .extend => ref1 (fun i => arg1 (fun x => listAt H i (extL H i x)) args) v
  | .pop => ref1 (fun i => arg0 (listAt H i (popL H i)) args) v
  | .get => ref1 (fun i => arg2 (fun k d => dictAt H i fun l => ifO k.keyOk ((dlook k l).getD d, H)) args) v
noncomputable def bmKind (H : Hp) : BM → V → Bool
  | .get, .ref i => match H[i]? with
    | some (.dict _) => true
    | _ => false
  | _, .ref i => match H[i]? with
    | some (.list _) => true
    | _ => false
  | _, _ => false
noncomputable def bindT (tg : Tg) (v : V) (ρ : Rho) : Option Rho := match tg with
  | .one i => some (ρ.set i (some v))
noncomputable def getAll (ρ : Rho) : List Nat → Option (List V)
  | [] => some []
  | i :: l => match ρ[i]? with
    | some (some v) => (getAll ρ l).map (v :: ·)
    | _ => Option.none
noncomputable def setAll : List Nat → List V → Rho → Option Rho
  | [], [], ρ => some ρ
  | i :: is, v :: vs, ρ => setAll is vs (ρ.set i (some v))
  | _, _, _ => Option.none
noncomputable def s_cells : Str := ⟨#[99,101,108,108,115]⟩
noncomputable def s_spot : Str := ⟨#[115,112,111,116]⟩
noncomputable def s_bv1 : Str := ⟨#[40,95,32,66,105,116,86,101,99,32]⟩
noncomputable def s_bv2 : Str := ⟨#[41]⟩
noncomputable def bvName (i : Int) : Str := ((Str.empty ++ s_bv1) ++ Str.ofString (toString i)) ++ s_bv2
noncomputable def flatV : V → Bool
  | .none => true
  | .bool _ => true
  | .int _ => true
  | .str _ => true
  | _ => false
noncomputable def tru : V → Option Bool
  | .bool b => some b
  | _ => Option.none
noncomputable def srcAt (H : Hp) (it : V) (k : Nat) : Option (Option V) := match it with
  | .tup l => if Nat.ble l.length cap then some l[k]? else Option.none
  | .lst l => if Nat.ble l.length cap then some l[k]? else Option.none
  | .rng a b => if tiny a && tiny b && Nat.ble (b - a).toNat cap then some (if Nat.blt k (b - a).toNat then some (.int (a + (k : Int))) else Option.none) else Option.none
  | .ref i => match H[i]? with
    | some (.list l) => if Nat.ble l.length cap then some l[k]? else Option.none
    | _ => Option.none
  | _ => Option.none
noncomputable def okTg (tg : Tg) (it : V) : Bool := match tg, it with
  | .one _, _ => true
noncomputable def compGo (body : V → Hp → Option (Option V × Hp)) (it : V) (j : Nat) : Nat → Nat → Hp → Option Hp
  | 0, _, _ => Option.none
  | n + 1, k, H => match srcAt H it k with
    | some (some x) => match body x H with
      | some (some v, H1) => match H1[j]? with
        | some (.list l) => if Nat.blt l.length cap then compGo body it j n (k + 1) (H1.set j (.list (l ++ [v]))) else Option.none
        | _ => Option.none
      | some (Option.none, H1) => compGo body it j n (k + 1) H1
      | Option.none => Option.none
    | some Option.none => some H
    | Option.none => Option.none
noncomputable def compOver (tg : Tg) (body : V → Hp → Option (Option V × Hp)) (it : V) (H : Hp) : Option (List V × Hp) := match okTg tg it with
  | true => match compGo body it H.length 4200 0 (H ++ [.list []]) with
    | some H1 => match H1[H.length]? with
      | some (.list l) => some (l, H1)
      | _ => Option.none
    | Option.none => Option.none
  | false => Option.none
noncomputable abbrev Ev := Rho → Hp → Option (V × Hp)
noncomputable def e_cst (v : V) : Ev := fun _ H => some (v, H)
noncomputable def e_var (i : Nat) : Ev := fun ρ H => match ρ[i]? with
    | some (some v) => some (v, H)
    | _ => Option.none
noncomputable def e_glob (v : V) : Ev := fun _ H => some (v, H)
noncomputable def e_nil : Ev := fun _ H => some (.lst [], H)
noncomputable def e_cons (a : Ev) (b : Ev) : Ev := fun ρ H => match a ρ H with
    | some (v, H) => match b ρ H with
      | some (.lst l, H) => some (.lst (v :: l), H)
      | _ => Option.none
    | Option.none => Option.none
noncomputable def e_tup (es : Ev) : Ev := fun ρ H => match es ρ H with
    | some (.lst l, H) => some (.tup l, H)
    | _ => Option.none
noncomputable def e_lst (es : Ev) : Ev := fun ρ H => match es ρ H with
    | some (.lst l, H) => some (.lst l, H)
    | _ => Option.none
noncomputable def e_lstH (es : Ev) : Ev := fun ρ H => match es ρ H with
    | some (.lst l, H) => some (.ref H.length, H ++ [.list l])
    | _ => Option.none
noncomputable def e_dictH (ks : Ev) (vs : Ev) : Ev := fun ρ H => match ks ρ H with
    | some (.lst k, H) => match vs ρ H with
      | some (.lst v, H) => some (.ref H.length, H ++ [.dict (mkDict k v [])])
      | _ => Option.none
    | _ => Option.none
noncomputable def e_and (a : Ev) (b : Ev) : Ev := fun ρ H => match a ρ H with
    | some (.bool true, H) => b ρ H
    | some (.bool false, H) => some (.bool false, H)
    | _ => Option.none
noncomputable def e_or (a : Ev) (b : Ev) : Ev := fun ρ H => match a ρ H with
    | some (.bool true, H) => some (.bool true, H)
    | some (.bool false, H) => b ρ H
    | _ => Option.none
noncomputable def e_not (a : Ev) : Ev := fun ρ H => match a ρ H with
    | some (.bool b, H) => some (.bool (!b), H)
    | _ => Option.none
noncomputable def e_neg (a : Ev) : Ev := fun ρ H => match a ρ H with
    | some (.int i, H) => some (.int (-i), H)
    | _ => Option.none
noncomputable def e_bin (op : Operator) (a : Ev) (b : Ev) : Ev := fun ρ H => match a ρ H with
    | some (x, H) => match b ρ H with
      | some (y, H) => (binop H op x y).map fun v => (v, H)
      | Option.none => Option.none
    | Option.none => Option.none
noncomputable def e_cmp (op : CmpOp) (a : Ev) (b : Ev) : Ev := fun ρ H => match a ρ H with
    | some (x, H) => match b ρ H with
      | some (y, H) => (cmpop H op x y).map fun v => (.bool v, H)
      | Option.none => Option.none
    | Option.none => Option.none
noncomputable def e_cmp2 (o1 : CmpOp) (o2 : CmpOp) (a : Ev) (b : Ev) (c : Ev) : Ev := fun ρ H => match a ρ H with
    | some (x, H) => match b ρ H with
      | some (y, H) => match cmpop H o1 x y with
        | some true => match c ρ H with
          | some (z, H) => (cmpop H o2 y z).map fun v => (.bool v, H)
          | Option.none => Option.none
        | some false => some (.bool false, H)
        | Option.none => Option.none
      | Option.none => Option.none
    | Option.none => Option.none
noncomputable def e_cmp3 (o1 : CmpOp) (o2 : CmpOp) (o3 : CmpOp) (a : Ev) (b : Ev) (c : Ev) (d : Ev) : Ev := fun ρ H => match a ρ H with
    | some (x, H) => match b ρ H with
      | some (y, H) => match cmpop H o1 x y with
        | some true => match c ρ H with
          | some (z, H) => match cmpop H o2 y z with
            | some true => match d ρ H with
              | some (u, H) => (cmpop H o3 z u).map fun v => (.bool v, H)
              | Option.none => Option.none
            | some false => some (.bool false, H)
            | Option.none => Option.none
          | Option.none => Option.none
        | some false => some (.bool false, H)
        | Option.none => Option.none
      | Option.none => Option.none
    | Option.none => Option.none
noncomputable def e_ife (t : Ev) (a : Ev) (b : Ev) : Ev := fun ρ H => match t ρ H with
    | some (.bool true, H) => a ρ H
    | some (.bool false, H) => b ρ H
    | _ => Option.none
noncomputable def e_attr (P : Pg) (e : Ev) (x : Nat) : Ev := fun ρ H => match e ρ H with
    | some (.ref i, H) => match H[i]? with
      | some (.inst c l) => match P.meth c x with
        | Option.none => (alook x l).map fun v => (v, H)
        | some _ => Option.none
      | _ => Option.none
    | _ => Option.none
noncomputable def e_sub (e : Ev) (k : Ev) : Ev := fun ρ H => match e ρ H with
    | some (x, H) => match k ρ H with
      | some (y, H) => (subOp H x y).map fun v => (v, H)
      | Option.none => Option.none
    | Option.none => Option.none
noncomputable def e_slice (e : Ev) (lo : Ev) (hi : Ev) : Ev := fun ρ H => match e ρ H with
    | some (x, H) => match lo ρ H with
      | some (y, H) => match hi ρ H with
        | some (z, H) => (sliceOp H x y z).map fun v => (v, H)
        | Option.none => Option.none
      | Option.none => Option.none
    | Option.none => Option.none
noncomputable def e_rev (e : Ev) : Ev := fun ρ H => match e ρ H with
    | some (x, H) => (revOp H x).map fun v => (v, H)
    | Option.none => Option.none
noncomputable def e_call (C : CallT) (f : Nat) (args : Ev) : Ev := fun ρ H => match args ρ H with
    | some (.lst l, H) => C f l H
    | _ => Option.none
noncomputable def e_meth (P : Pg) (C : CallT) (e : Ev) (x : Nat) (args : Ev) : Ev := fun ρ H => match e ρ H with
    | some (.ref i, H) => match H[i]? with
      | some (.inst c al) => match alook x al, P.meth c x with
        | Option.none, some f => match args ρ H with
          | some (.lst l, H) => C f (.ref i :: l) H
          | _ => Option.none
        | _, _ => Option.none
      | _ => Option.none
    | _ => Option.none
noncomputable def e_new (P : Pg) (C : CallT) (c : Nat) (args : Ev) : Ev := fun ρ H => match args ρ H with
    | some (.lst l, H) => match P.ini[c]? with
      | some f => match C f (.ref H.length :: l) (H ++ [.inst c []]) with
        | some (.none, H1) => some (.ref H.length, H1)
        | _ => Option.none
      | Option.none => Option.none
    | _ => Option.none
noncomputable def e_sup (C : CallT) (f : Nat) : Ev := fun ρ H => match (ρ[(0 : Nat)]? : Option (Option V)) with
    | some (some (.ref i)) => match H[i]? with
      | some (.inst c _) => if Nat.beq c 0 then C f [.ref i] H else Option.none
      | _ => Option.none
    | _ => Option.none
noncomputable def e_bm (op : BM) (e : Ev) (args : Ev) : Ev := fun ρ H => match e ρ H with
    | some (x, H) => match bmKind H op x with
      | true => match args ρ H with
        | some (.lst l, H) => bmop H op x l
        | _ => Option.none
      | false => Option.none
    | Option.none => Option.none
noncomputable def e_bi (op : Bi) (args : Ev) : Ev := fun ρ H => match args ρ H with
    | some (.lst l, H) => (biop H op l).map fun v => (v, H)
    | _ => Option.none
noncomputable def e_isi (e : Ev) (t : Ty) : Ev := fun ρ H => match e ρ H with
    | some (x, H) => (tyOp t x).map fun b => (.bool b, H)
    | Option.none => Option.none
noncomputable def e_comp (elt : Ev) (tg : Tg) (it : Ev) (cond : Ev) : Ev := fun ρ H => match it ρ H with
    | some (x, H) => match compOver tg (fun x H => match bindT tg x ρ with
        | some ρ1 => match cond ρ1 H with
          | some (.bool true, H) => match elt ρ1 H with
            | some (v, H) => some (some v, H)
            | Option.none => Option.none
          | some (.bool false, H) => some (Option.none, H)
          | _ => Option.none
        | Option.none => Option.none) x H with
      | some (vs, H1) => some (.lst vs, H1.set H.length .dead)
      | Option.none => Option.none
    | Option.none => Option.none
noncomputable def e_bvn (e : Ev) : Ev := fun ρ H => match e ρ H with
    | some (.int i, H) => if small i then some (.str (bvName i), H) else Option.none
    | _ => Option.none
noncomputable def evE (P : Pg) (C : CallT) : E → Ev
  | .cst v => e_cst v
  | .var i => e_var i
  | .glob _ v => e_glob v
  | .nil => e_nil
  | .cons a b => e_cons (evE P C a) (evE P C b)
  | .tup es => e_tup (evE P C es)
  | .lst es => e_lst (evE P C es)
  | .lstH es => e_lstH (evE P C es)
  | .dictH ks vs => e_dictH (evE P C ks) (evE P C vs)
  | .and a b => e_and (evE P C a) (evE P C b)
  | .or a b => e_or (evE P C a) (evE P C b)
  | .not a => e_not (evE P C a)
  | .neg a => e_neg (evE P C a)
  | .bin op a b => e_bin op (evE P C a) (evE P C b)
  | .cmp op a b => e_cmp op (evE P C a) (evE P C b)
  | .cmp2 o1 o2 a b c => e_cmp2 o1 o2 (evE P C a) (evE P C b) (evE P C c)
  | .cmp3 o1 o2 o3 a b c d => e_cmp3 o1 o2 o3 (evE P C a) (evE P C b) (evE P C c) (evE P C d)
  | .ife t a b => e_ife (evE P C t) (evE P C a) (evE P C b)
  | .attr e x => e_attr P (evE P C e) x
  | .sub e k => e_sub (evE P C e) (evE P C k)
  | .slice e lo hi => e_slice (evE P C e) (evE P C lo) (evE P C hi)
  | .rev e => e_rev (evE P C e)
  | .call f args => e_call C f (evE P C args)
  | .meth e x args => e_meth P C (evE P C e) x (evE P C args)
  | .new c args => e_new P C c (evE P C args)
  | .sup f => e_sup C f
  | .bm op e args => e_bm op (evE P C e) (evE P C args)
  | .bi op args => e_bi op (evE P C args)
  | .isi e t => e_isi (evE P C e) t
  | .comp elt tg it cond => e_comp (evE P C elt) tg (evE P C it) (evE P C cond)
  | .bvn e => e_bvn (evE P C e)
inductive R where
  | next
  | cont
  | ret (v : V)
noncomputable def setItem (H : Hp) (o k v : V) : Option Hp := match o with
  | .ref i => match H[i]? with
    | some (.dict l) => if k.keyOk && Nat.blt l.length cap then some (H.set i (.dict (dput k v l))) else Option.none
    | _ => Option.none
  | _ => Option.none
noncomputable def whileGo (test : Rho → Hp → Option (V × Hp)) (body : Rho → Hp → Option (R × Rho × Hp)) : Nat → Rho → Hp → Option (R × Rho × Hp)
  | 0, _, _ => Option.none
  | n + 1, ρ, H => match test ρ H with
    | some (.bool true, H) => match body ρ H with
      | some (.next, ρ, H) => whileGo test body n ρ H
      | some (.cont, ρ, H) => whileGo test body n ρ H
      | r => r
    | some (.bool false, H) => some (.next, ρ, H)
    | _ => Option.none
noncomputable def forGo (tg : Tg) (it : V) (body : Rho → Hp → Option (R × Rho × Hp)) : Nat → Nat → Rho → Hp → Option (R × Rho × Hp)
  | 0, _, _, _ => Option.none
  | n + 1, k, ρ, H => match srcAt H it k with
    | some (some x) => match bindT tg x ρ with
      | some ρ => match body ρ H with
        | some (.next, ρ, H) => forGo tg it body n (k + 1) ρ H
        | some (.cont, ρ, H) => forGo tg it body n (k + 1) ρ H
        | r => r
      | Option.none => Option.none
    | some Option.none => some (.next, ρ, H)
    | Option.none => Option.none
noncomputable abbrev Sv := Rho → Hp → Option (R × Rho × Hp)
noncomputable def s_skip : Sv := fun ρ H => some (.next, ρ, H)
noncomputable def s_seq (a : Sv) (b : Sv) : Sv := fun ρ H => match a ρ H with
    | some (.next, ρ, H) => b ρ H
    | r => r
noncomputable def s_asg (i : Nat) (e : Ev) : Sv := fun ρ H => match e ρ H with
    | some (v, H) => some (.next, ρ.set i (some v), H)
    | Option.none => Option.none
noncomputable def s_asgT (is : List Nat) (e : Ev) : Sv := fun ρ H => match e ρ H with
    | some (.tup l, H) => match setAll is l ρ with
      | some ρ => some (.next, ρ, H)
      | Option.none => Option.none
    | some (.lst l, H) => match setAll is l ρ with
      | some ρ => some (.next, ρ, H)
      | Option.none => Option.none
    | _ => Option.none
noncomputable def s_setA (P : Pg) (o : Ev) (x : Nat) (e : Ev) : Sv := fun ρ H => match e ρ H with
    | some (v, H) => match o ρ H with
      | some (.ref i, H) => match H[i]? with
        | some (.inst c l) => match P.meth c x, Nat.blt l.length 100 with
          | Option.none, true => some (.next, ρ, H.set i (.inst c (aput x v l)))
          | _, _ => Option.none
        | _ => Option.none
      | _ => Option.none
    | Option.none => Option.none
noncomputable def s_setI (o : Ev) (k : Ev) (e : Ev) : Sv := fun ρ H => match e ρ H with
    | some (v, H) => match o ρ H with
      | some (d, H) => match k ρ H with
        | some (x, H) => match setItem H d x v with
          | some H => some (.next, ρ, H)
          | Option.none => Option.none
        | Option.none => Option.none
      | Option.none => Option.none
    | Option.none => Option.none
noncomputable def s_ex (e : Ev) : Sv := fun ρ H => match e ρ H with
    | some (v, H) => if flatV v then some (.next, ρ, H) else Option.none
    | Option.none => Option.none
noncomputable def s_ite (t : Ev) (a : Sv) (b : Sv) : Sv := fun ρ H => match t ρ H with
    | some (.bool true, H) => a ρ H
    | some (.bool false, H) => b ρ H
    | _ => Option.none
noncomputable def s_whl (t : Ev) (b : Sv) : Sv := fun ρ H => whileGo t b 200 ρ H
noncomputable def s_forS (tg : Tg) (it : Ev) (b : Sv) : Sv := fun ρ H => match it ρ H with
    | some (x, H) => match okTg tg x with
      | true => forGo tg x b 4200 0 ρ H
      | false => Option.none
    | Option.none => Option.none
noncomputable def s_ret (e : Ev) : Sv := fun ρ H => match e ρ H with
    | some (v, H) => some (.ret v, ρ, H)
    | Option.none => Option.none
noncomputable def s_retF (i : Nat) : Sv := fun ρ H => match ρ[i]? with
    | some (some (.ref j)) => match H[j]? with
      | some (.list l) => some (.ret (.lst l), ρ, H.set j .dead)
      | _ => Option.none
    | _ => Option.none
noncomputable def s_cont : Sv := fun ρ H => some (.cont, ρ, H)
noncomputable def s_bad : Sv := fun _ _ => Option.none
noncomputable def evS (P : Pg) (C : CallT) : S → Sv
  | .skip => s_skip
  | .seq a b => s_seq (evS P C a) (evS P C b)
  | .asg i e => s_asg i (evE P C e)
  | .asgT is e => s_asgT is (evE P C e)
  | .setA o x e => s_setA P (evE P C o) x (evE P C e)
  | .setI o k e => s_setI (evE P C o) (evE P C k) (evE P C e)
  | .ex e => s_ex (evE P C e)
  | .ite t a b => s_ite (evE P C t) (evS P C a) (evS P C b)
  | .whl t b => s_whl (evE P C t) (evS P C b)
  | .forS tg it b => s_forS tg (evE P C it) (evS P C b)
  | .ret e => s_ret (evE P C e)
  | .retF i => s_retF i
  | .cont => s_cont
  | .bad => s_bad
structure Fn where
  params : List Nat
  nv : Nat
  body : S
noncomputable def rho0 : Nat → Rho
  | 0 => []
  | n + 1 => Option.none :: rho0 n
noncomputable def evF (P : Pg) (C : CallT) (fn : Fn) (args : List V) (H : Hp) : Option (V × Hp) := match setAll fn.params args (rho0 fn.nv) with
  | some ρ => match evS P C fn.body ρ H with
    | some (.ret v, _, H) => some (v, H)
    | some (.next, _, H) => some (.none, H)
    | _ => Option.none
  | Option.none => Option.none
noncomputable def runF (P : Pg) (fns : List Fn) : Nat → CallT
  | 0 => fun _ _ _ => Option.none
  | n + 1 => fun f args H => match fns[f]? with
    | some fn => evF P (runF P fns n) fn args H
    | Option.none => Option.none
theorem s3 {α β γ : Type} {a a' : α} {b b' : β} {c c' : γ} (h : some (a, b, c) = some (a', b', c')) : a' = a ∧ b' = b ∧ c' = c := by
  cases h; exact ⟨rfl, rfl, rfl⟩
theorem s2 {α β : Type} {a a' : α} {b b' : β} (h : some (a, b) = some (a', b')) : a' = a ∧ b' = b := by
  cases h; exact ⟨rfl, rfl⟩
end Mine
set_option linter.unusedSimpArgs false
namespace Mine
open PySem
structure Gt where
  names : List Str
  consts : List (Str × V)
  fns : List (Str × Nat)
  classes : List (Str × Nat)
  sup : Option Nat
noncomputable def findStr (x : Str) : List Str → Nat → Option Nat
  | [], _ => none
  | y :: l, i => match strEq y x with
    | true => some i
    | false => findStr x l (i + 1)
noncomputable def nfind (x : Str) {α : Type} : List (Str × α) → Option α
  | [] => none
  | p :: l => match strEq p.1 x with
    | true => some p.2
    | false => nfind x l
noncomputable def s_abs : Str := ⟨#[97,98,115]⟩
noncomputable def s_len : Str := ⟨#[108,101,110]⟩
noncomputable def s_min : Str := ⟨#[109,105,110]⟩
noncomputable def s_max : Str := ⟨#[109,97,120]⟩
noncomputable def s_sum : Str := ⟨#[115,117,109]⟩
noncomputable def s_sorted : Str := ⟨#[115,111,114,116,101,100]⟩
noncomputable def s_tuple : Str := ⟨#[116,117,112,108,101]⟩
noncomputable def s_list : Str := ⟨#[108,105,115,116]⟩
noncomputable def s_int : Str := ⟨#[105,110,116]⟩
noncomputable def s_str : Str := ⟨#[115,116,114]⟩
noncomputable def s_bool : Str := ⟨#[98,111,111,108]⟩
noncomputable def s_range : Str := ⟨#[114,97,110,103,101]⟩
noncomputable def s_isinstance : Str := ⟨#[105,115,105,110,115,116,97,110,99,101]⟩
noncomputable def s_super : Str := ⟨#[115,117,112,101,114]⟩
noncomputable def s_init : Str := ⟨#[95,95,105,110,105,116,95,95]⟩
noncomputable def s_append : Str := ⟨#[97,112,112,101,110,100]⟩
noncomputable def s_extend : Str := ⟨#[101,120,116,101,110,100]⟩
noncomputable def s_pop : Str := ⟨#[112,111,112]⟩
noncomputable def s_count : Str := ⟨#[99,111,117,110,116]⟩
noncomputable def s_index : Str := ⟨#[105,110,100,101,120]⟩
noncomputable def s_get : Str := ⟨#[103,101,116]⟩
noncomputable def s_dot0 : Str := ⟨#[46,48]⟩
noncomputable def biOf (x : Str) : Option Bi := nfind x [(s_abs, .abs), (s_len, .len), (s_min, .min), (s_max, .max), (s_sum, .sum), (s_sorted, .sorted), (s_tuple, .tuple), (s_list, .list), (s_int, .int), (s_range, .range)]
noncomputable def tyOf (x : Str) : Option Ty := nfind x [(s_int, .int), (s_str, .str), (s_tuple, .tuple), (s_bool, .bool)]
noncomputable def bmOf (x : Str) : Option BM := nfind x [(s_append, .append), (s_extend, .extend), (s_pop, .pop), (s_get, .get)]
noncomputable abbrev Nm := List (Str × Nat)
noncomputable def isVar (sc : Scope) (x : Str) : Bool := match sc.names.lookup x with
  | some .local => true
  | some .cell => true
  | some .free => true
  | _ => false
noncomputable def isGlob (sc : Scope) (x : Str) : Bool := match sc.names.lookup x with
  | some .globalImplicit => true
  | _ => false
noncomputable def s_debug : Str := ⟨#[95,95,100,101,98,117,103,95,95]⟩
noncomputable def s_classdict : Str := ⟨#[95,95,99,108,97,115,115,100,105,99,116,95,95]⟩
noncomputable def cName (G : Gt) (sc : Scope) (nm : Nm) (x : Str) : Option E :=
  if strEq x s_debug || strEq x s_classdict then none else if isVar sc x then (nfind x nm).map .var
  else if isGlob sc x then match findStr x G.names 0, nfind x G.consts with
    | some i, some v => some (.glob i v)
    | _, _ => none
  else none
noncomputable def cConst : Const → Option V
  | .none => some .none
  | .bool b => some (.bool b)
  | .int i => some (.int i)
  | .str s => some (.str s)
  | _ => none
noncomputable def compNm (nm : Nm) (b : Nat) : List (Str × NameKind) → Nm
  | [] => []
  | (x, k) :: l => match k with
    | .local => match strEq x s_dot0 with
      | true => compNm nm b l
      | false => (x, b) :: compNm nm (b + 1) l
    | .free => match nfind x nm with
      | some i => (x, i) :: compNm nm b l
      | none => compNm nm b l
    | _ => compNm nm b l
noncomputable def relab (outer : Scope) (sc : Scope) : Scope :=
  { sc with names := sc.names.map fun (n, k) => if (k == .free && outer.kind == .function && outer.names.lookup n == some .cell) then (n, .cell) else (n, k) }
noncomputable def cTg (sc : Scope) (nm : Nm) : Expr → Option Tg
  | .Name x _ => if sc.names.lookup x == some .local then (nfind x nm).map .one else none
  | _ => none
noncomputable def okScope (outer sc : Scope) (nm : Nm) : Bool := sc.kind == .function && !sc.isGenerator && !sc.isCoroutine &&
  sc.names.all fun (n, k) => k != .cell && sc.names.lookup n == some k && (k != .free || (outer.names.lookup n == some .cell && (nfind n nm).isSome))
noncomputable def hasS (x : Str) : List Str → Bool
  | [] => false
  | y :: l => strEq y x || hasS x l
noncomputable def noDup : List Nat → Bool
  | [] => true
  | a :: l => !(l.any (Nat.beq a)) && noDup l
noncomputable def tgNames : Expr → List Str
  | .Name x _ => [x]
  | _ => []
noncomputable def okComp (nm : Nm) (csc : Scope) (nm1 : Nm) (tg : Expr) : Bool :=
  (csc.names.all fun (n, k) => k != .local || strEq n s_dot0 || hasS n (tgNames tg)) && noDup (nm1.map (·.2)) && (nfind s_dot0 nm1).isNone &&
  nm1.all fun (n, i) => csc.names.lookup n == some .local || nfind n nm == some i
noncomputable def isList : Expr → Bool
  | .List .. => true
  | _ => false
noncomputable def isCall0 : Expr → Bool
  | .Call (.Name ..) [] [] _ => true
  | _ => false
noncomputable def cList (f : Expr → Option E) : List Expr → Option E
  | [] => some .nil
  | e :: l => match f e, cList f l with
    | some a, some b => some (.cons a b)
    | _, _ => none
noncomputable def optList {α β : Type} (f : α → Option β) : List α → Option (List β)
  | [] => some []
  | e :: l => match f e, optList f l with
    | some a, some b => some (a :: b)
    | _, _ => none
noncomputable def cKeys : List (Option Expr) → Option E
  | [] => some .nil
  | some (.Constant (.str s) _ _) :: l => (cKeys l).map (.cons (.cst (.str s)))
  | _ => none
noncomputable def mk2 (g : E → E → E) : Option E → Option E → Option E
  | some a, some b => some (g a b)
  | _, _ => none
noncomputable def mk3 (g : E → E → E → E) : Option E → Option E → Option E → Option E
  | some a, x, y => mk2 (g a) x y
  | none, _, _ => none
theorem mk2_some {g : E → E → E} {x y : Option E} {z : E} (h : mk2 g x y = some z) : ∃ a b, x = some a ∧ y = some b ∧ z = g a b := by
  cases x <;> cases y <;> (first | exact nosome h | exact nofalse h | cases h)
  exact ⟨_, _, rfl, rfl, rfl⟩
theorem mk3_some {g : E → E → E → E} {x y u : Option E} {z : E} (h : mk3 g x y u = some z) : ∃ a b c, x = some a ∧ y = some b ∧ u = some c ∧ z = g a b c := by
  cases x with
  | none => (first | exact nosome h | exact nofalse h | cases h)
  | some a =>
    obtain ⟨b, c, h1, h2, h3⟩ := mk2_some h
    exact ⟨a, b, c, rfl, h1, h2, h3⟩
noncomputable def cBool (op : BoolOp) (f : Expr → Option E) : List Expr → Option E
  | [] => none
  | [x] => f x
  | x :: l => mk2 (match op with | .And => .and | .Or => .or) (f x) (cBool op f l)
noncomputable def cBin (heap : Bool) (op : Operator) (x y : Option E) : Option E := match heap with
  | true => none
  | false => mk2 (.bin op) x y
noncomputable def cUn (op : UnaryOp) (x : Option E) : Option E := match op with
  | .Not => x.map .not
  | .USub => x.map .neg
  | _ => none
noncomputable def cCond (f : Expr → Option E) : List Expr → Option E
  | [] => some (.cst (.bool true))
  | [c] => f c
  | _ => none
noncomputable def cComp (b : Nat) (f : Scope → Nm → Bool → Expr → Option E) (sc : Scope) (nm : Nm) (heap : Bool) (elt : Expr) (csc : Scope) : List Comprehension → Option E
  | [g] => match okScope sc csc nm && g.is_async == 0 && okComp nm csc (compNm nm b csc.names) g.target with
    | true => match cTg (relab sc csc) (compNm nm b csc.names) g.target with
      | some t => match heap with
        | true => none
        | false => mk3 (fun i x c => .comp x t i c) (f sc nm false g.iter) (f (relab sc csc) (compNm nm b csc.names) false elt) (cCond (f (relab sc csc) (compNm nm b csc.names) false) g.ifs)
      | none => none
    | false => none
  | _ => none
noncomputable def cCmp (f : Expr → Option E) (a : Option E) : List CmpOp → List Expr → Option E
  | [o], [r] => mk2 (.cmp o) a (f r)
  | [o1, o2], [r1, r2] => mk3 (.cmp2 o1 o2) a (f r1) (f r2)
  | [o1, o2, o3], [r1, r2, r3] => match f r3 with
    | some z => mk3 (fun a x y => .cmp3 o1 o2 o3 a x y z) a (f r1) (f r2)
    | none => none
  | _, _ => none
noncomputable def cMeth (G : Gt) (f : Bool → Expr → Option E) (o : Expr) (name : Str) (args : List Expr) : Option E := match bmOf name with
  | some op => mk2 (.bm op) (f false o) (cList (f false) args)
  | none => match strEq name s_count || strEq name s_index with
    | true => none
    | false => match findStr name G.names 0 with
      | some i => mk2 (fun x l => .meth x i l) (f false o) (cList (f false) args)
      | none => none
noncomputable def cIsi (sc : Scope) (f : Expr → Option E) (x : Expr) : Expr → Option E
  | .Name t _ => match isGlob sc t && !strEq t s_debug, tyOf t with
    | true, some ty => (f x).map fun x => .isi x ty
    | _, _ => none
  | _ => none
noncomputable def cIsi2 (sc : Scope) (f : Expr → Option E) : List Expr → Option E
  | [x, t] => cIsi sc f x t
  | _ => none
noncomputable def cCallN (G : Gt) (sc : Scope) (f : Expr → Option E) (x : Str) (args : List Expr) : Option E := match isGlob sc x && !strEq x s_debug with
  | true => match nfind x G.fns with
    | some i => (cList f args).map (.call i)
    | none => match nfind x G.classes with
      | some c => (cList f args).map (.new c)
      | none => match biOf x with
        | some op => (cList f args).map (.bi op)
        | none => match strEq x s_isinstance with
          | true => cIsi2 sc f args
          | false => none
  | false => none
noncomputable def cCall (G : Gt) (sc : Scope) (f : Bool → Expr → Option E) (args : List Expr) (cp : Pos) : Expr → Option E
  | .Attribute o name ap => match ap.endLine == cp.line && Nat.blt args.length 29 && !isCall0 o with
    | true => cMeth G f o name args
    | false => none
  | .Name x _ => cCallN G sc (f false) x args
  | _ => none
noncomputable def cBound (f : Expr → Option E) : Option Expr → Option E
  | none => some (.cst .none)
  | some e => f e
noncomputable def isOne : Expr → Bool
  | .Constant c _ _ => match c with
    | .int n => intEq n 1
    | _ => false
  | _ => false
noncomputable def isMinus1 : Expr → Bool
  | .UnaryOp op c _ => match op with
    | .USub => isOne c
    | _ => false
  | _ => false
noncomputable def cSlice (f : Expr → Option E) (x : Option E) (lo hi : Option Expr) : Option Expr → Option E
  | none => mk3 .slice x (cBound f lo) (cBound f hi)
  | some st => match isMinus1 st && lo.isNone && hi.isNone with
    | true => x.map .rev
    | false => none
noncomputable def cSub (f : Expr → Option E) (x : Option E) (i : Expr) : Option E := match i with
  | .Slice lo hi step _ => cSlice f x lo hi step
  | i => mk2 .sub x (f i)
noncomputable def strOf : Expr → Option Str
  | .Constant (.str a) _ _ => some a
  | _ => none
noncomputable def fmtOf : Expr → Option Expr
  | .FormattedValue v (-1) none _ => some v
  | _ => none
noncomputable def cJoin (f : Expr → Option E) : List Expr → Option E
  | [a, v, c] => match strOf a, fmtOf v, strOf c with
    | some a, some v, some c => match strEq a s_bv1 && strEq c s_bv2 with
      | true => (f v).map .bvn
      | false => none
    | _, _, _ => none
  | _ => none
noncomputable def cE1 (G : Gt) (b : Nat) (f : Scope → Nm → Bool → Expr → Option E) (sc : Scope) (nm : Nm) (heap : Bool) : Expr → Option E
  | .Constant c _ _ => (cConst c).map .cst
  | .Name x _ => cName G sc nm x
  | .BoolOp op es _ => cBool op (f sc nm false) es
  | .BinOp l op r _ => cBin heap op (f sc nm false l) (f sc nm false r)
  | .UnaryOp op x _ => cUn op (f sc nm false x)
  | .IfExp t x y _ => mk3 .ife (f sc nm false t) (f sc nm false x) (f sc nm false y)
  | .Dict ks vs _ => match ks.length == vs.length && Nat.ble vs.length 15 with
    | true => mk2 .dictH (cKeys ks) (cList (f sc nm false) vs)
    | false => none
  | .List es _ => match Nat.ble es.length 100 with
    | true => (cList (f sc nm false) es).map (match heap with | true => .lstH | false => .lst)
    | false => none
  | .Tuple es _ _ => match Nat.ble es.length 100 with
    | true => (cList (f sc nm false) es).map .tup
    | false => none
  | .ListComp elt gs csc _ => cComp b f sc nm heap elt csc gs
  | .Compare l ops rs _ => cCmp (f sc nm false) (f sc nm false l) ops rs
  | .Call fn args ks cp => match ks with
    | [] => cCall G sc (f sc nm) args cp fn
    | _ => none
  | .Attribute o name _ => match isCall0 o with
    | true => none
    | false => match findStr name G.names 0 with
      | some i => (f sc nm false o).map fun x => .attr x i
      | none => none
  | .Subscript v i _ => cSub (f sc nm false) (f sc nm false v) i
  | .JoinedStr l _ => cJoin (f sc nm false) l
  | _ => none
noncomputable def cE (G : Gt) (b : Nat) : Nat → Scope → Nm → Bool → Expr → Option E
  | 0 => fun _ _ _ _ => none
  | n + 1 => cE1 G b (cE G b n)
noncomputable def nameOf? : Expr → Option Str
  | .Name x _ => some x
  | _ => none
noncomputable def isLocalOrCell (sc : Scope) (x : Str) : Bool := match sc.names.lookup x with
  | some .local => true
  | some .cell => true
  | _ => false
noncomputable def cVar (sc : Scope) (nm : Nm) (x : Str) : Option Nat := if isLocalOrCell sc x then nfind x nm else none
noncomputable def swapBad : Expr → Bool
  | .Tuple vs _ _ => vs.all (constantsAlone 8)
  | _ => false
noncomputable def cZip (f : Bool → Expr → Option E) (hl : List Str) : List Str → List Expr → Option E
  | [], [] => some .nil
  | x :: xs, e :: es => match f (hasS x hl) e, cZip f hl xs es with
    | some a, some b => some (.cons a b)
    | _, _ => none
  | _, _ => none
noncomputable def cTupVal (f : Bool → Expr → Option E) (hl xs : List Str) : Expr → Option E
  | .Tuple es _ _ => if Nat.ble es.length 100 then (cZip f hl xs es).map .tup else none
  | v => if xs.any fun x => hasS x hl then none else f false v
noncomputable def o2 {α β γ : Type} (g : α → β → γ) : Option α → Option β → Option γ
  | some a, some b => some (g a b)
  | _, _ => none
theorem o2_some {α β γ : Type} {g : α → β → γ} {x : Option α} {y : Option β} {z : γ} (h : o2 g x y = some z) : ∃ a b, x = some a ∧ y = some b ∧ z = g a b := by
  cases x <;> cases y <;> (first | exact nosome h | exact nofalse h | cases h)
  exact ⟨_, _, rfl, rfl, rfl⟩
section
variable (G : Gt) (b : Nat) (sc : Scope) (nm : Nm) (hl : List Str) (f : Bool → Expr → Option E)
noncomputable def cNames (v : Expr) (xs : List Str) : Option S := match optList (cVar sc nm) xs with
  | some is => match noDup is && !swapBad v with
    | true => (cTupVal f hl xs v).map (.asgT is)
    | false => none
  | none => none
noncomputable def cAssign (v : Expr) : Expr → Option S
  | .Name x _ => o2 .asg (cVar sc nm x) (f (hasS x hl) v)
  | .Attribute o name _ => match findStr name G.names 0 with
    | some i => o2 (fun o e => .setA o i e) (f false o) (f (isList v) v)
    | none => none
  | .Subscript o k _ => o2 (fun p e => .setI p.1 p.2 e) (o2 Prod.mk (f false o) (f false k)) (f false v)
  | .Tuple ts _ _ => match optList nameOf? ts with
    | some xs => cNames sc nm hl f v xs
    | none => none
  | _ => none
noncomputable def cSs (f : Stmt → Option S) : List Stmt → Option S
  | [] => some .skip
  | [s] => f s
  | s :: l => o2 .seq (f s) (cSs f l)
noncomputable def cRet : Option Expr → Option S
  | none => some (.ret (.cst .none))
  | some v => match nameOf? v with
    | some x => match hasS x hl with
      | true => match strEq x s_debug || strEq x s_classdict with
        | true => none
        | false => (cVar sc nm x).map .retF
      | false => (f false v).map .ret
    | none => (f false v).map .ret
noncomputable def isCall : Expr → Bool
  | .Call .. => true
  | _ => false
noncomputable def cOneT (v : Expr) : List Expr → Option S
  | [t] => cAssign G sc nm hl f v t
  | _ => none
noncomputable def cTg2 : Expr → Option Nat
  | .Name x _ => cVar sc nm x
  | _ => none
noncomputable def cS1 (g : Stmt → Option S) : Stmt → Option S
  | .Pass _ => some .skip
  | .Continue _ => some .cont
  | .Raise .. => some .bad
  | .Return v _ => cRet sc nm hl f v
  | .Expr v _ => match isCall v with
    | true => (f false v).map .ex
    | false => none
  | .Assign ts v _ => cOneT G sc nm hl f v ts
  | .If t a e _ => o2 (fun t p => .ite t p.1 p.2) (f false t) (o2 Prod.mk (cSs g a) (cSs g e))
  | .While t a e _ => match e with
    | [] => o2 .whl (f false t) (cSs g a)
    | _ => none
  | .For tg it a e _ => match e with
    | [] => o2 (fun t p => .forS (.one t) p.1 p.2) (cTg2 sc nm tg) (o2 Prod.mk (f false it) (cSs g a))
    | _ => none
  | _ => none
end
noncomputable def cS (G : Gt) (b : Nat) (sc : Scope) (nm : Nm) (hl : List Str) : Nat → Stmt → Option S
  | 0 => fun _ => none
  | n + 1 => cS1 G sc nm hl (cE G b n sc nm) (cS G b sc nm hl n)
noncomputable def ownNm : List (Str × NameKind) → Nat → Nm
  | [], _ => []
  | (x, k) :: l, i => match k with
    | .local => (x, i) :: ownNm l (i + 1)
    | .cell => (x, i) :: ownNm l (i + 1)
    | _ => ownNm l i
noncomputable def okFnScope (sc : Scope) : Bool := sc.kind == .function && !sc.isGenerator && !sc.isCoroutine &&
  sc.names.all fun (n, k) => sc.names.lookup n == some k && (k == .local || k == .cell || k == .globalImplicit || n == (⟨#[95,95,99,108,97,115,115,95,95]⟩ : Str))
noncomputable def cFn (G : Gt) (hl : List Str) (fd : FuncData) : Option Fn :=
  let p := fd.params
  if okFnScope fd.scope && p.posonlyargs.isEmpty && p.vararg.isNone && p.kwonlyargs.isEmpty && p.kwarg.isNone && p.defaults.isEmpty then
    match fd.body with
    | .stmts body =>
      let nm := ownNm fd.scope.names 0
      match optList (fun a => cVar fd.scope nm a) (p.args.map (·.arg)), cSs (cS G nm.length fd.scope nm hl 100) body with
      | some ps, some s => if noDup ps then some ⟨ps, nm.length + 2, s⟩ else none
      | _, _ => none
    | _ => none
  else none
end Mine
set_option linter.unusedSimpArgs false
namespace Mine
open PySem PySem.W PyProof.Rows
noncomputable abbrev Sg := List (Option (Addr × Addr))
noncomputable def Rng (σ : Sg) (d : Addr) : Prop := ∃ x, some (x, d) ∈ σ
noncomputable def isIter (o : Obj) : Bool := o.cls == .type "list_iterator" || o.cls == .type "tuple_iterator" || o.cls == .type "range_iterator"
noncomputable def Imm (o : Obj) : Prop := (∀ es n, o.data ≠ .dict es n) ∧ (∀ v, o.data ≠ .cell v) ∧ isIter o = false
noncomputable def Grow (σ : Sg) (h h' : Heap) : Prop := ∀ b o, h.get? b = some o → ¬ Rng σ b → h'.get? b = some o
noncomputable def KeepI (σ : Sg) (h h' : Heap) : Prop := ∀ b o, h.get? b = some o → ¬ Rng σ b → Imm o → h'.get? b = some o
theorem Grow.keepI {σ : Sg} {h h' : Heap} (g : Grow σ h h') : KeepI σ h h' := fun b o e n _ => g b o e n
structure SExt (σ σ' : Sg) (h : Heap) : Prop where
  len : σ.length ≤ σ'.length
  same : ∀ i, i < σ.length → σ'[i]? = σ[i]? ∨ σ'[i]? = some none
  fresh : ∀ d, Rng σ' d → Rng σ d ∨ h.get? d = none
theorem SExt.refl (σ : Sg) (h : Heap) : SExt σ σ h := ⟨Nat.le_refl _, fun _ _ => .inl rfl, fun _ r => .inl r⟩
theorem SExt.notRng {σ σ' : Sg} {h : Heap} (e : SExt σ σ' h) {a : Addr} {o : Obj} (ho : h.get? a = some o) (n : ¬ Rng σ a) : ¬ Rng σ' a := fun r => by
  rcases e.fresh a r with q | q
  · exact n q
  · rw [ho] at q; (first | exact nosome q | exact nofalse q | cases q)
structure SExtI (σ σ' : Sg) (h : Heap) : Prop where
  len : σ.length ≤ σ'.length
  same : ∀ i, i < σ.length → σ'[i]? = σ[i]? ∨ σ'[i]? = some none
  fresh : ∀ d, Rng σ' d → Rng σ d ∨ ∀ o, h.get? d = some o → ¬ Imm o
theorem SExt.toI {σ σ' : Sg} {h : Heap} (e : SExt σ σ' h) : SExtI σ σ' h := ⟨e.len, e.same, fun d r => (e.fresh d r).imp id fun q o ho => by rw [q] at ho; cases ho⟩
theorem SExtI.notRng {σ σ' : Sg} {h : Heap} (e : SExtI σ σ' h) {a : Addr} {o : Obj} (ho : h.get? a = some o) (n : ¬ Rng σ a) (im : Imm o) : ¬ Rng σ' a := fun r => by
  rcases e.fresh a r with q | q
  · exact n q
  · exact q o ho im
mutual
noncomputable def VR (h : Heap) (σ : Sg) : V → Value → Prop
  | .none, v => v = .none
  | .bool b, v => v = .bool b
  | .int i, v => ∃ t, v = .int i t
  | .str s, v => ∃ t, v = .str s t
  | .rng a b, v => ∃ r t u c, v = .ref r ∧ IsRange h r a b 1 t u c ∧ ¬ Rng σ r
  | .tup l, v => ∃ a items, v = .ref a ∧ h.IsTuple a items ∧ ¬ Rng σ a ∧ VRs h σ l items.toList
  | .lst l, v => ∃ a items, v = .ref a ∧ h.IsList a items ∧ ¬ Rng σ a ∧ VRs h σ l items.toList
  | .ref i, v => i < σ.length ∧ ∃ a, v = .ref a ∧ ∀ p, σ[i]? = some (some p) → p.1 = a
noncomputable def VRs (h : Heap) (σ : Sg) : List V → List Value → Prop
  | [], vs => vs = []
  | x :: l, vs => ∃ v r, vs = v :: r ∧ VR h σ x v ∧ VRs h σ l r
end
theorem imm_seq {o : Obj} {items : Array Value} {n : Nat} (h : o.data = .seq items n) (hc : isIter o = false) : Imm o := by
  refine ⟨?_, ?_, hc⟩ <;> intros <;> rw [h] <;> exact fun q => nomatch q
theorem imm_fields {o : Obj} {vs : Array Value} (h : o.data = .fields vs) (hc : isIter o = false) : Imm o := by
  refine ⟨?_, ?_, hc⟩ <;> intros <;> rw [h] <;> exact fun q => nomatch q
theorem imm_plain {o : Obj} (h : o.data = .plain) (hc : isIter o = false) : Imm o := by
  refine ⟨?_, ?_, hc⟩ <;> intros <;> rw [h] <;> exact fun q => nomatch q
theorem isIter_ty {o : Obj} {c : String} (h : o.cls = .type c) (hc : (c == "list_iterator" || c == "tuple_iterator" || c == "range_iterator") = false) : isIter o = false := by
  simp only [Bool.or_eq_false_iff, beq_eq_false_iff_ne] at hc
  unfold isIter
  rw [h]
  simp only [Bool.or_eq_false_iff, beq_eq_false_iff_ne, ne_eq, Value.type.injEq]
  exact hc
mutual
theorem VR.stepI {h h' : Heap} {σ σ' : Sg} (g : KeepI σ h h') (e : SExtI σ σ' h) : ∀ (x : V) {v : Value}, VR h σ x v → VR h' σ' x v
  | .none, _, H => H
  | .bool _, _, H => H
  | .int _, _, H => H
  | .str _, _, H => H
  | .rng a b, v, H => by
    obtain ⟨r, t, u, c, hv, hr, n⟩ := H
    exact ⟨r, t, u, c, hv, g _ _ hr n (imm_fields rfl (isIter_ty rfl rfl)), e.notRng hr n (imm_fields rfl (isIter_ty rfl rfl))⟩
  | .tup l, v, H => by
    obtain ⟨a, items, hv, ht, n, hs⟩ := H
    obtain ⟨o, ho, hc, k, hd⟩ := ht
    exact ⟨a, items, hv, ⟨o, g _ _ ho n (imm_seq hd (isIter_ty hc rfl)), hc, k, hd⟩, e.notRng ho n (imm_seq hd (isIter_ty hc rfl)), VRs.stepI g e l hs⟩
  | .lst l, v, H => by
    obtain ⟨a, items, hv, ht, n, hs⟩ := H
    obtain ⟨o, ho, hc, k, hd⟩ := ht
    exact ⟨a, items, hv, ⟨o, g _ _ ho n (imm_seq hd (isIter_ty hc rfl)), hc, k, hd⟩, e.notRng ho n (imm_seq hd (isIter_ty hc rfl)), VRs.stepI g e l hs⟩
  | .ref i, v, H => by
    obtain ⟨hi, a, hv, hp⟩ := H
    refine ⟨Nat.lt_of_lt_of_le hi e.len, a, hv, fun p hp' => ?_⟩
    rcases e.same i hi with q | q
    · exact hp p (q ▸ hp')
    · rw [q] at hp'; (first | exact nosome hp' | exact nofalse hp' | cases hp')
theorem VRs.stepI {h h' : Heap} {σ σ' : Sg} (g : KeepI σ h h') (e : SExtI σ σ' h) : ∀ (l : List V) {vs : List Value}, VRs h σ l vs → VRs h' σ' l vs
  | [], _, H => H
  | x :: l, vs, H => by
    obtain ⟨v, r, hv, hx, hl⟩ := H
    exact ⟨v, r, hv, VR.stepI g e x hx, VRs.stepI g e l hl⟩
end
theorem VR.step {h h' : Heap} {σ σ' : Sg} (g : KeepI σ h h') (e : SExt σ σ' h) (x : V) {v : Value} (H : VR h σ x v) : VR h' σ' x v := VR.stepI g e.toI x H
theorem VRs.step {h h' : Heap} {σ σ' : Sg} (g : KeepI σ h h') (e : SExt σ σ' h) (l : List V) {vs : List Value} (H : VRs h σ l vs) : VRs h' σ' l vs := VRs.stepI g e.toI l H
theorem VRs.length {h : Heap} {σ : Sg} : ∀ {l : List V} {vs : List Value}, VRs h σ l vs → l.length = vs.length
  | [], _, H => by rw [show _ = [] from H]; rfl
  | x :: l, vs, H => by
    obtain ⟨v, r, rfl, _, hl⟩ := H
    simp [VRs.length hl]
theorem VRs.cons {h : Heap} {σ : Sg} {x : V} {l : List V} {v : Value} {r : List Value} (a : VR h σ x v) (b : VRs h σ l r) : VRs h σ (x :: l) (v :: r) := ⟨v, r, rfl, a, b⟩
theorem VRs.append {h : Heap} {σ : Sg} : ∀ {l : List V} {vs : List Value} {l' : List V} {vs' : List Value}, VRs h σ l vs → VRs h σ l' vs' → VRs h σ (l ++ l') (vs ++ vs')
  | [], _, _, _, H, H' => by rw [show _ = [] from H]; exact H'
  | x :: l, _, _, _, H, H' => by
    obtain ⟨v, r, rfl, hx, hl⟩ := H
    exact ⟨v, _, rfl, hx, hl.append H'⟩
theorem VRs.get {h : Heap} {σ : Sg} : ∀ {l : List V} {vs : List Value}, VRs h σ l vs → ∀ {i : Nat} {x : V}, l[i]? = some x → ∃ v, vs[i]? = some v ∧ VR h σ x v
  | [], _, _, i, x, e => by simp at e
  | y :: l, vs, H, i, x, e => by
    obtain ⟨v, r, rfl, hx, hl⟩ := H
    cases i with
    | zero => simp at e; subst e; exact ⟨v, rfl, hx⟩
    | succ i => simp at e; simpa using hl.get e
theorem VRs.getR {h : Heap} {σ : Sg} : ∀ {l : List V} {vs : List Value}, VRs h σ l vs → ∀ {i : Nat} {v : Value}, vs[i]? = some v → ∃ x, l[i]? = some x ∧ VR h σ x v
  | [], _, H, i, x, e => by rw [show _ = [] from H] at e; simp at e
  | y :: l, vs, H, i, x, e => by
    obtain ⟨v, r, rfl, hx, hl⟩ := H
    cases i with
    | zero => simp at e; subst e; exact ⟨y, rfl, hx⟩
    | succ i => simp at e; simpa using hl.getR e
theorem VRs.drop {h : Heap} {σ : Sg} : ∀ {l : List V} {vs : List Value} (n : Nat), VRs h σ l vs → VRs h σ (l.drop n) (vs.drop n)
  | l, vs, 0, H => by simpa using H
  | [], vs, n + 1, H => by rw [show _ = [] from H]; simp [VRs]
  | y :: l, vs, n + 1, H => by
    obtain ⟨v, r, rfl, _, hl⟩ := H
    simpa using hl.drop n
theorem VRs.take {h : Heap} {σ : Sg} : ∀ {l : List V} {vs : List Value} (n : Nat), VRs h σ l vs → VRs h σ (l.take n) (vs.take n)
  | l, vs, 0, H => by simp [VRs]
  | [], vs, n + 1, H => by rw [show _ = [] from H]; simp [VRs]
  | y :: l, vs, n + 1, H => by
    obtain ⟨v, r, rfl, hx, hl⟩ := H
    simpa using VRs.cons hx (hl.take n)
theorem VRs.reverse {h : Heap} {σ : Sg} : ∀ {l : List V} {vs : List Value}, VRs h σ l vs → VRs h σ l.reverse vs.reverse
  | [], vs, H => by rw [show _ = [] from H]; simp [VRs]
  | y :: l, vs, H => by
    obtain ⟨v, r, rfl, hx, hl⟩ := H
    simpa using hl.reverse.append (VRs.cons hx (show VRs h σ [] [] from rfl))
theorem VRs.snoc {h : Heap} {σ : Sg} {l : List V} {vs : List Value} {x : V} {v : Value} (a : VRs h σ l vs) (b : VR h σ x v) : VRs h σ (l ++ [x]) (vs ++ [v]) :=
  a.append (VRs.cons b (show VRs h σ [] [] from rfl))
noncomputable def vhashN (w : World) : Nat → V → Int
  | 0, _ => 0
  | n + 1, x => match x with
    | .int i => (intKind default w).hash i
    | .str s => (strKind default w).hash s
    | .tup l => reduceHash (Builtin.Tuple.tupleHashOf (l.map (vhashN w n)))
    | _ => 0
noncomputable def vhash (w : World) (x : V) : Int := vhashN w 4 x
noncomputable def ER (w : World) (h : Heap) (σ : Sg) : List (V × V) → List DictEntry → Prop
  | [], es => es = []
  | p :: l, es => ∃ e r, es = e :: r ∧ p.1.keyOk = true ∧ e.hash = vhash w p.1 ∧ VR h σ p.1 e.key ∧ VR h σ p.2 e.val ∧ ER w h σ l r
noncomputable def AR (names : List Str) (h : Heap) (σ : Sg) : List (Nat × V) → List DictEntry → Prop
  | [], es => es = []
  | p :: l, es => ∃ e r s t, es = e :: r ∧ names[p.1]? = some s ∧ e.key = .str s t ∧ VR h σ p.2 e.val ∧ AR names h σ l r
theorem ER.stepI {w : World} {h h' : Heap} {σ σ' : Sg} (g : KeepI σ h h') (e : SExtI σ σ' h) : ∀ {l : List (V × V)} {es : List DictEntry}, ER w h σ l es → ER w h' σ' l es
  | [], _, H => H
  | p :: l, _, H => by
    obtain ⟨x, r, rfl, hk, hh, h1, h2, hl⟩ := H
    exact ⟨x, r, rfl, hk, hh, VR.stepI g e _ h1, VR.stepI g e _ h2, ER.stepI g e hl⟩
theorem AR.stepI {names : List Str} {h h' : Heap} {σ σ' : Sg} (g : KeepI σ h h') (e : SExtI σ σ' h) : ∀ {l : List (Nat × V)} {es : List DictEntry}, AR names h σ l es → AR names h' σ' l es
  | [], _, H => H
  | p :: l, _, H => by
    obtain ⟨x, r, s, t, rfl, hk, hh, h1, hl⟩ := H
    exact ⟨x, r, s, t, rfl, hk, hh, VR.stepI g e _ h1, AR.stepI g e hl⟩
theorem ER.step {w : World} {h h' : Heap} {σ σ' : Sg} (g : KeepI σ h h') (e : SExt σ σ' h) {l : List (V × V)} {es : List DictEntry} (H : ER w h σ l es) : ER w h' σ' l es := H.stepI g e.toI
theorem AR.step {names : List Str} {h h' : Heap} {σ σ' : Sg} (g : KeepI σ h h') (e : SExt σ σ' h) {l : List (Nat × V)} {es : List DictEntry} (H : AR names h σ l es) : AR names h' σ' l es := H.stepI g e.toI
noncomputable def IsDictAt (h : Heap) (a : Addr) (es : List DictEntry) (n : Nat) : Prop := h.get? a = some (dictOf es n)
structure Tb where
  names : List Str
  cls : List Addr
  cells : List Int
noncomputable def KNod : List (V × V) → Prop
  | [] => True
  | p :: l => (∀ q ∈ l, q.1 ≠ p.1) ∧ KNod l
noncomputable def feedD (l : List Int) (k : Nat) : List (V × V) := [(.str s_cells, .lst (l.map .int)), (.str s_spot, .int k)]
noncomputable def OR (T : Tb) (w : World) (h : Heap) (σ : Sg) : O → Option (Addr × Addr) → Prop
  | .dead, p => p = none
  | .list l, p => ∃ a items, p = some (a, a) ∧ h.PlainList a items ∧ VRs h σ l items.toList
  | .dict l, p => ∃ a es n, p = some (a, a) ∧ IsDictAt h a es n ∧ ER w h σ l es ∧ KNod l
  | .inst c l, p => ∃ x d C es n, p = some (x, d) ∧ T.cls[c]? = some C ∧ h.get? x = some (instObj C d) ∧ ¬ Rng σ x ∧ IsDictAt h d es n ∧ AR T.names h σ l es
  | .feed k, p => ∃ a es n, p = some (a, a) ∧ IsDictAt h a es n ∧ ER w h σ (feedD T.cells k) es ∧ KNod (feedD T.cells k)
structure Inv (T : Tb) (w : World) (base : Heap) (σ : Sg) (H : Hp) (h : Heap) : Prop where
  stays : ∀ b o, base.get? b = some o → h.get? b = some o
  fresh : ∀ d, Rng σ d → base.get? d = none ∧ mainGlobals < d
  glob : ∃ o, base.get? mainGlobals = some o
  len : H.length = σ.length
  inj : ∀ (i j : Nat) (x y d : Addr), σ[i]? = some (some (x, d)) → σ[j]? = some (some (y, d)) → i = j
  hr : ∀ (i : Nat) (o : O) p, H[i]? = some o → σ[i]? = some p → OR T w h σ o p
theorem rng_of {σ : Sg} {i : Nat} {x d : Addr} (e : σ[i]? = some (some (x, d))) : Rng σ d := ⟨x, List.mem_of_getElem? e⟩
theorem rng_iff {σ : Sg} {d : Addr} : Rng σ d ↔ ∃ (i : Nat) (x : Addr), σ[i]? = some (some (x, d)) := by
  constructor
  · rintro ⟨x, hx⟩
    obtain ⟨i, hi⟩ := List.getElem?_of_mem hx
    exact ⟨i, x, hi⟩
  · rintro ⟨i, x, e⟩; exact rng_of e
theorem OR.stepI {T : Tb} {w : World} {h h' : Heap} {σ σ' : Sg} (g : KeepI σ h h') (e : SExtI σ σ' h) {o : O} {p : Option (Addr × Addr)} (hd : ∀ x d, p = some (x, d) → h'.get? d = h.get? d) (H : OR T w h σ o p) : OR T w h' σ' o p := by
  cases o with
  | dead => exact H
  | list l =>
    obtain ⟨a, items, rfl, ⟨n, ho⟩, hv⟩ := H
    exact ⟨a, items, rfl, ⟨n, (hd a a rfl).trans ho⟩, VRs.stepI g e _ hv⟩
  | dict l =>
    obtain ⟨a, es, n, rfl, ho, hv, hn⟩ := H
    exact ⟨a, es, n, rfl, (hd a a rfl).trans ho, hv.stepI g e, hn⟩
  | feed k =>
    obtain ⟨a, es, n, rfl, ho, hv, hn⟩ := H
    exact ⟨a, es, n, rfl, (hd a a rfl).trans ho, hv.stepI g e, hn⟩
  | inst c l =>
    obtain ⟨x, d, C, es, n, rfl, hc, hx, hn, ho, hv⟩ := H
    exact ⟨x, d, C, es, n, rfl, hc, g _ _ hx hn (imm_plain rfl rfl), e.notRng hx hn (imm_plain rfl rfl), (hd x d rfl).trans ho, hv.stepI g e⟩
theorem OR.step {T : Tb} {w : World} {h h' : Heap} {σ σ' : Sg} (g : KeepI σ h h') (e : SExt σ σ' h) {o : O} {p : Option (Addr × Addr)} (hd : ∀ x d, p = some (x, d) → h'.get? d = h.get? d) (H : OR T w h σ o p) : OR T w h' σ' o p := H.stepI g e.toI hd
theorem OR.there {T : Tb} {w : World} {h : Heap} {σ : Sg} {o : O} {x d : Addr} (H : OR T w h σ o (some (x, d))) : ∃ y, h.get? d = some y := by
  cases o with
  | dead => (first | exact nosome H | exact nofalse H | cases H)
  | list l => obtain ⟨a, items, hp, ⟨n, ho⟩, hv⟩ := H; cases hp; exact ⟨_, ho⟩
  | dict l => obtain ⟨a, es, n, hp, ho, hv⟩ := H; cases hp; exact ⟨_, ho⟩
  | feed k => obtain ⟨a, es, n, hp, ho, hv⟩ := H; cases hp; exact ⟨_, ho⟩
  | inst c l => obtain ⟨x, d, C, es, n, hp, hc, hx, hn, ho, hv⟩ := H; cases hp; exact ⟨_, ho⟩
structure Stp (σ σ' : Sg) (s s' : Shared) : Prop where
  grow : Grow σ s.heap s'.heap
  ext : SExt σ σ' s.heap
  gens : s'.gens = s.gens
  drawn : s'.drawn = s.drawn
  os : s'.os = s.os
theorem Stp.refl (σ : Sg) (s : Shared) : Stp σ σ s s := ⟨fun _ _ e _ => e, .refl .., rfl, rfl, rfl⟩
theorem Grow.trans {σ σ' : Sg} {h h' h'' : Heap} (a : Grow σ h h') (e : SExt σ σ' h) (b : Grow σ' h' h'') : Grow σ h h'' := fun x o hx n => b x o (a x o hx n) (e.notRng hx n)
theorem SExt.trans {σ σ' σ'' : Sg} {h h' : Heap} (a : SExt σ σ' h) (g : Grow σ h h') (b : SExt σ' σ'' h') : SExt σ σ'' h := by
  refine ⟨Nat.le_trans a.len b.len, fun i hi => ?_, fun d r => ?_⟩
  · rcases b.same i (Nat.lt_of_lt_of_le hi a.len) with q | q
    · rw [q]; exact a.same i hi
    · exact .inr q
  · rcases b.fresh d r with q | q
    · exact a.fresh d q
    · by_cases n : Rng σ d
      · exact .inl n
      · cases z : h.get? d with
        | none => exact .inr rfl
        | some o => have := g d o z n; rw [q] at this; (first | exact nosome this | exact nofalse this | cases this)
theorem Stp.trans {σ σ' σ'' : Sg} {s s' s'' : Shared} (a : Stp σ σ' s s') (b : Stp σ' σ'' s' s'') : Stp σ σ'' s s'' :=
  ⟨a.grow.trans a.ext b.grow, a.ext.trans a.grow b.ext, b.gens.trans a.gens, b.drawn.trans a.drawn, b.os.trans a.os⟩
theorem VR.stp {σ σ' : Sg} {s s' : Shared} (a : Stp σ σ' s s') {x : V} {v : Value} (H : VR s.heap σ x v) : VR s'.heap σ' x v := VR.step a.grow.keepI a.ext x H
theorem VRs.stp {σ σ' : Sg} {s s' : Shared} (a : Stp σ σ' s s') {x : List V} {v : List Value} (H : VRs s.heap σ x v) : VRs s'.heap σ' x v := VRs.step a.grow.keepI a.ext x H
theorem Stp.toks (σ : Sg) (s : Shared) (t : Nat) : Stp σ σ s { s with toks := t } := ⟨fun _ _ e _ => e, .refl .., rfl, rfl, rfl⟩
theorem Stp.more {σ : Sg} {s : Shared} {h : Heap} {t : Nat} (g : ∀ b o, s.heap.get? b = some o → h.get? b = some o) : Stp σ σ s { s with heap := h, toks := t } := ⟨fun b o e _ => g b o e, .refl .., rfl, rfl, rfl⟩
theorem get_of_lt {α : Type} {l : List α} {i : Nat} (h : i < l.length) : ∃ x, l[i]? = some x := ⟨l[i], by simp [h]⟩
theorem lt_of_get {α : Type} {l : List α} {i : Nat} {x : α} (h : l[i]? = some x) : i < l.length := (List.getElem?_eq_some_iff.mp h).1
section
variable {T : Tb} {w : World} {base h h' : Heap} {σ : Sg} {H : Hp}
theorem Inv.at (I : Inv T w base σ H h) {i : Nat} {o : O} (e : H[i]? = some o) : ∃ p, σ[i]? = some p ∧ OR T w h σ o p := by
  obtain ⟨p, hp⟩ := get_of_lt (l := σ) (i := i) (by rw [← I.len]; exact lt_of_get e)
  exact ⟨p, hp, I.hr i o p e hp⟩
theorem Inv.more (I : Inv T w base σ H h) (g : ∀ b o, h.get? b = some o → h'.get? b = some o) : Inv T w base σ H h' := by
  refine ⟨fun b o e => g b o (I.stays b o e), I.fresh, I.glob, I.len, I.inj, fun i o p e q => ?_⟩
  have z := I.hr i o p e q
  refine z.step (fun b o e _ _ => g b o e) (.refl ..) fun x d hp => ?_
  subst hp
  obtain ⟨y, hy⟩ := z.there
  rw [hy]; exact g _ _ hy
theorem Inv.but (I : Inv T w base σ H h) {a : Addr} {o : Obj} (ho : h.get? a = some o) (hi : ¬ Imm o) (hn : ¬ Rng σ a) (hb : base.get? a = none) (hs : Heap.SameBut a h h') : Inv T w base σ H h' ∧ KeepI σ h h' := by
  have k : KeepI σ h h' := fun b x e _ im => by
    by_cases q : b = a
    · subst q; rw [ho] at e; cases e; exact absurd im hi
    · exact (hs.2 b q).trans e
  refine ⟨⟨fun b x e => ?_, I.fresh, I.glob, I.len, I.inj, fun i x p e q => (I.hr i x p e q).step k (.refl ..) fun y d hp => ?_⟩, k⟩
  · by_cases q : b = a
    · subst q; rw [hb] at e; (first | exact nosome e | exact nofalse e | cases e)
    · exact (hs.2 b q).trans (I.stays b x e)
  · subst hp
    exact hs.2 d fun z => hn (z ▸ rng_of q)
theorem Inv.set (I : Inv T w base σ H h) {i : Nat} {x d : Addr} {o : O} (hp : σ[i]? = some (some (x, d))) (hs : Heap.SameBut d h h') (ho : OR T w h' σ o (some (x, d))) :
    Inv T w base σ (H.set i o) h' ∧ Grow σ h h' := by
  have g : Grow σ h h' := fun b y e n => (hs.2 b fun q => n (q ▸ rng_of hp)).trans e
  refine ⟨⟨fun b y e => (hs.2 b fun q => ?_).trans (I.stays b y e), I.fresh, I.glob, by rw [List.length_set]; exact I.len, I.inj, fun j y p e q => ?_⟩, g⟩
  · subst q; rw [(I.fresh _ (rng_of hp)).1] at e; (first | exact nosome e | exact nofalse e | cases e)
  · by_cases hij : i = j
    · subst hij
      rw [List.getElem?_set_self (by rw [I.len]; exact lt_of_get hp)] at e
      (first | exact nosome e | exact nofalse e | cases e)
      rw [hp] at q; (first | exact nosome q | exact nofalse q | cases q)
      exact ho
    · rw [List.getElem?_set_ne hij] at e
      refine (I.hr j y p e q).step g.keepI (.refl ..) fun x' d' hp' => hs.2 d' fun z => ?_
      subst hp' z
      exact hij (I.inj i j x x' d' hp q)
theorem rng_snoc {σ : Sg} {p : Option (Addr × Addr)} {d : Addr} : Rng (σ ++ [p]) d ↔ Rng σ d ∨ ∃ x, p = some (x, d) := by
  simp only [Rng, List.mem_append, List.mem_singleton]
  constructor
  · rintro ⟨x, h | h⟩
    · exact .inl ⟨x, h⟩
    · exact .inr ⟨x, h.symm⟩
  · rintro (⟨x, h⟩ | ⟨x, h⟩)
    · exact ⟨x, .inl h⟩
    · exact ⟨x, .inr h.symm⟩
theorem Inv.add (I : Inv T w base σ H h) (g : ∀ b o, h.get? b = some o → h'.get? b = some o) {x d : Addr} {o : O} (hd : h.get? d = none) (hg : mainGlobals < d) (ho : OR T w h' (σ ++ [some (x, d)]) o (some (x, d))) :
    Inv T w base (σ ++ [some (x, d)]) (H ++ [o]) h' ∧ SExt σ (σ ++ [some (x, d)]) h := by
  have e : SExt σ (σ ++ [some (x, d)]) h := by
    refine ⟨by simp, fun i hi => .inl ?_, fun b r => ?_⟩
    · rw [List.getElem?_append_left hi]
    · rcases rng_snoc.mp r with q | ⟨y, q⟩
      · exact .inl q
      · cases q; exact .inr hd
  have J := I.more g
  have hns : ∀ b, Rng σ b → b ≠ d := fun b r q => by
    subst q
    obtain ⟨i, y, hy⟩ := rng_iff.mp r
    obtain ⟨z, hz⟩ := get_of_lt (l := H) (i := i) (by rw [I.len]; exact lt_of_get hy)
    have := I.hr i z _ hz hy
    obtain ⟨u, hu⟩ := this.there
    rw [hd] at hu; (first | exact nosome hu | exact nofalse hu | cases hu)
  refine ⟨⟨J.stays, fun b r => ?_, I.glob, by simp [I.len], fun i j x' y' d' hi hj => ?_, fun i y p hy hp => ?_⟩, e⟩
  · rcases rng_snoc.mp r with q | ⟨y, q⟩
    · exact I.fresh b q
    · (first | exact nosome q | exact nofalse q | cases q)
      refine ⟨?_, hg⟩
      cases z : base.get? d with
      | none => rfl
      | some o' => have := I.stays _ _ z; rw [hd] at this; (first | exact nosome this | exact nofalse this | cases this)
  · by_cases h1 : i < σ.length
    · rw [List.getElem?_append_left h1] at hi
      by_cases h2 : j < σ.length
      · rw [List.getElem?_append_left h2] at hj
        exact I.inj i j x' y' d' hi hj
      · have : j = σ.length := by have := lt_of_get hj; simp at this; omega
        subst this
        simp at hj
        obtain ⟨rfl, rfl⟩ := hj
        exact absurd rfl (hns _ (rng_of hi))
    · have : i = σ.length := by have := lt_of_get hi; simp at this; omega
      subst this
      simp at hi
      obtain ⟨rfl, rfl⟩ := hi
      by_cases h2 : j < σ.length
      · rw [List.getElem?_append_left h2] at hj
        exact absurd rfl (hns _ (rng_of hj))
      · have := lt_of_get hj; simp at this; omega
  · by_cases h1 : i < σ.length
    · rw [List.getElem?_append_left h1] at hp
      rw [List.getElem?_append_left (by rw [I.len]; exact h1)] at hy
      have z := I.hr i y p hy hp
      refine z.step (fun b o e _ _ => g b o e) e fun x' d' hp' => ?_
      subst hp'
      obtain ⟨u, hu⟩ := z.there
      rw [hu]; exact g _ _ hu
    · have : i = σ.length := by have := lt_of_get hp; simp at this; omega
      subst this
      rw [List.getElem?_append_right (by rw [I.len]; exact Nat.le_refl _)] at hy
      simp [I.len] at hy
      simp at hp
      subst hy hp
      exact ho
theorem Inv.adopt (I : Inv T w base σ H h) {x d : Addr} {o : O} {od : Obj} (hd : h.get? d = some od) (hi : ¬ Imm od) (hn : ¬ Rng σ d) (hb : base.get? d = none) (hg : mainGlobals < d) (ho : OR T w h (σ ++ [some (x, d)]) o (some (x, d))) :
    Inv T w base (σ ++ [some (x, d)]) (H ++ [o]) h := by
  have e : SExtI σ (σ ++ [some (x, d)]) h := by
    refine ⟨by simp, fun i hi => .inl ?_, fun b r => ?_⟩
    · rw [List.getElem?_append_left hi]
    · rcases rng_snoc.mp r with q | ⟨y, q⟩
      · exact .inl q
      · cases q; exact .inr fun o ho => by rw [hd] at ho; cases ho; exact hi
  refine ⟨I.stays, fun b r => ?_, I.glob, by simp [I.len], fun i j x' y' d' hi hj => ?_, fun i y p hy hp => ?_⟩
  · rcases rng_snoc.mp r with q | ⟨y, q⟩
    · exact I.fresh b q
    · cases q; exact ⟨hb, hg⟩
  · by_cases h1 : i < σ.length
    · rw [List.getElem?_append_left h1] at hi
      by_cases h2 : j < σ.length
      · rw [List.getElem?_append_left h2] at hj
        exact I.inj i j x' y' d' hi hj
      · have : j = σ.length := by have := lt_of_get hj; simp at this; omega
        subst this
        simp at hj
        obtain ⟨rfl, rfl⟩ := hj
        exact absurd (rng_of hi) hn
    · have : i = σ.length := by have := lt_of_get hi; simp at this; omega
      subst this
      simp at hi
      obtain ⟨rfl, rfl⟩ := hi
      by_cases h2 : j < σ.length
      · rw [List.getElem?_append_left h2] at hj
        exact absurd (rng_of hj) hn
      · have := lt_of_get hj; simp at this; omega
  · by_cases h1 : i < σ.length
    · rw [List.getElem?_append_left h1] at hp
      rw [List.getElem?_append_left (by rw [I.len]; exact h1)] at hy
      exact (I.hr i y p hy hp).stepI (fun b o e _ _ => e) e fun x' d' hp' => rfl
    · have : i = σ.length := by have := lt_of_get hp; simp at this; omega
      subst this
      rw [List.getElem?_append_right (by rw [I.len]; exact Nat.le_refl _)] at hy
      simp [I.len] at hy
      simp at hp
      subst hy hp
      exact ho
end
end Mine
set_option linter.unusedSimpArgs false
namespace Mine
open PySem PySem.W PyProof.Rows
noncomputable abbrev Ok {α : Type} (prog : Program) (w : World) (A : Around) (t : Sem α) (s : Shared) (Q : α → Shared → Prop) : Prop := wpAny (model prog w) A t Q (fun _ _ => False) s
section
variable {α β : Type} {prog : Program} {w : World} {A : Around} {s : Shared}
theorem Ok.to {t : Sem α} {Q Q' : α → Shared → Prop} {Ex : Value → Shared → Prop} (h : Ok prog w A t s Q) (k : ∀ a s', Q a s' → Q' a s') : wpAny (model prog w) A t Q' Ex s :=
  wpAny_mono h k fun _ _ f => f.elim
theorem Ok.bind {t : Sem α} {f : α → Sem β} {Q : α → Shared → Prop} {Q' : β → Shared → Prop} {Ex : Value → Shared → Prop} (h : Ok prog w A t s Q) (k : ∀ a s', Q a s' → wpAny (model prog w) A (f a) Q' Ex s') : wpAny (model prog w) A (t >>= f) Q' Ex s :=
  wpAny_bind (h.to k)
end
noncomputable def isCell (sc : Scope) (x : Str) : Prop := sc.names.lookup x = some .cell ∨ sc.names.lookup x = some .free
structure Frm (nm : Nm) (env : Env) (base h : Heap) (σ : Sg) (ρ : Rho) : Prop where
  kind : env.scope.kind = .function
  glob : env.globals = mainGlobals
  blt : env.builtins = builtinsNs
  locN : ¬ Rng σ env.locals
  locB : base.get? env.locals = none
  ns : ∃ m, h.Ns env.locals m ∧ ∀ x i, nfind x nm = some i → env.scope.names.lookup x = some .local → ∀ v, ρ[i]? = some (some v) → ∃ val, m x = some val ∧ VR h σ v val
  cells : ∀ x i, nfind x nm = some i → isCell env.scope x → ∃ c, env.cells.lookup x = some c ∧ ¬ Rng σ c ∧ base.get? c = none ∧ ∃ cv, h.IsCell c cv ∧ ∀ v, ρ[i]? = some (some v) → ∃ val, cv = some val ∧ VR h σ v val
  apart : ∀ x y c, env.cells.lookup x = some c → env.cells.lookup y = some c → x = y
  inj : ∀ x y i, nfind x nm = some i → nfind y nm = some i → x = y
noncomputable def Own (nm : Nm) (env : Env) (a : Addr) : Prop := a = env.locals ∨ ∃ x i, nfind x nm = some i ∧ isCell env.scope x ∧ env.cells.lookup x = some a
section
variable {nm : Nm} {env : Env} {base h h' : Heap} {σ σ' : Sg} {ρ : Rho}
theorem Frm.step (F : Frm nm env base h σ ρ) (g : Grow σ h h') (e : SExt σ σ' h) : Frm nm env base h' σ' ρ := by
  obtain ⟨m, hm, hv⟩ := F.ns
  obtain ⟨o, es, ep, ho, r⟩ := id hm
  refine ⟨F.kind, F.glob, F.blt, e.notRng ho F.locN, F.locB, ⟨m, ⟨o, es, ep, g _ _ ho F.locN, r⟩, fun x i hx hk v hr => ?_⟩, fun x i hx hk => ?_, F.apart, F.inj⟩
  · obtain ⟨val, h1, h2⟩ := hv x i hx hk v hr
    exact ⟨val, h1, h2.step g.keepI e⟩
  · obtain ⟨c, hc, hn, hb, cv, ⟨oc, hoc, hd⟩, hv⟩ := F.cells x i hx hk
    refine ⟨c, hc, e.notRng hoc hn, hb, cv, ⟨oc, g _ _ hoc hn, hd⟩, fun v hr => ?_⟩
    obtain ⟨val, h1, h2⟩ := hv v hr
    exact ⟨val, h1, h2.step g.keepI e⟩
theorem Frm.stp {s s' : Shared} (F : Frm nm env base s.heap σ ρ) (a : Stp σ σ' s s') : Frm nm env base s'.heap σ' ρ := F.step a.grow a.ext
theorem Frm.own (F : Frm nm env base h σ ρ) {a : Addr} (ha : Own nm env a) : ¬ Rng σ a ∧ base.get? a = none ∧ ∃ o, h.get? a = some o ∧ ¬ Imm o := by
  rcases ha with rfl | ⟨x, i, hx, hk, hc⟩
  · obtain ⟨m, ⟨o, es, ep, ho, hd, _⟩, _⟩ := F.ns
    exact ⟨F.locN, F.locB, o, ho, fun im => im.1 _ _ hd⟩
  · obtain ⟨c, hc', hn, hb, cv, ⟨oc, hoc, hd⟩, _⟩ := F.cells x i hx hk
    rw [hc] at hc'; (first | exact nosome hc' | exact nofalse hc' | cases hc')
    exact ⟨hn, hb, oc, hoc, fun im => im.2.1 _ hd⟩
end
structure StpO (O : Addr → Prop) (σ σ' : Sg) (s s' : Shared) : Prop where
  grow : ∀ b o, s.heap.get? b = some o → ¬ Rng σ b → ¬ O b → s'.heap.get? b = some o
  ext : SExt σ σ' s.heap
  gens : s'.gens = s.gens
  drawn : s'.drawn = s.drawn
  os : s'.os = s.os
theorem Stp.toO {O : Addr → Prop} {σ σ' : Sg} {s s' : Shared} (a : Stp σ σ' s s') : StpO O σ σ' s s' := ⟨fun b o e n _ => a.grow b o e n, a.ext, a.gens, a.drawn, a.os⟩
theorem StpO.refl (O : Addr → Prop) (σ : Sg) (s : Shared) : StpO O σ σ s s := (Stp.refl σ s).toO
theorem StpO.trans {O : Addr → Prop} {σ σ' σ'' : Sg} {s s' s'' : Shared} (a : StpO O σ σ' s s') (b : StpO O σ' σ'' s' s'') (own : ∀ c, O c → ∃ o, s'.heap.get? c = some o) : StpO O σ σ'' s s'' := by
  refine ⟨fun x o hx n no => b.grow x o (a.grow x o hx n no) (a.ext.notRng hx n) no, ⟨Nat.le_trans a.ext.len b.ext.len, fun i hi => ?_, fun d r => ?_⟩, b.gens.trans a.gens, b.drawn.trans a.drawn, b.os.trans a.os⟩
  · rcases b.ext.same i (Nat.lt_of_lt_of_le hi a.ext.len) with q | q
    · rw [q]; exact a.ext.same i hi
    · exact .inr q
  · rcases b.ext.fresh d r with q | q
    · exact a.ext.fresh d q
    · by_cases n : Rng σ d
      · exact .inl n
      · cases z : s.heap.get? d with
        | none => exact .inr rfl
        | some o =>
          by_cases no : O d
          · obtain ⟨o', ho'⟩ := own d no
            rw [q] at ho'; (first | exact nosome ho' | exact nofalse ho' | cases ho')
          · have := a.grow d o z n no; rw [q] at this; (first | exact nosome this | exact nofalse this | cases this)
theorem set_get {ρ : Rho} {i j : Nat} {v : V} {y : V} (e : (ρ.set i (some v))[j]? = some (some y)) : (i = j ∧ y = v) ∨ (i ≠ j ∧ ρ[j]? = some (some y)) := by
  by_cases h : i = j
  · subst h
    by_cases hi : i < ρ.length
    · rw [List.getElem?_set_self hi] at e; (first | (replace e := s3 e; obtain ⟨h1', h2', h3'⟩ := e; subst h1'; cases h2'; (first | exact nosome h3' | exact nofalse h3' | cases h3')) | (replace e := s2 e; obtain ⟨rfl, rfl⟩ := e) | (first | exact nosome e | exact nofalse e | cases e)); exact .inl ⟨rfl, rfl⟩
    · rw [List.getElem?_eq_none (by simp; omega)] at e; (first | exact nosome e | exact nofalse e | cases e)
  · rw [List.getElem?_set_ne h] at e; exact .inr ⟨h, e⟩
section
variable {prog : Program} {w : World} {T : Tb} {base : Heap} {A : Around} {nm : Nm} {env : Env} {σ : Sg} {ρ : Rho} {H : Hp} {s : Shared}
theorem store_local {x : Str} {i : Nat} {v : V} {val : Value} (hx : nfind x nm = some i) (hk : env.scope.names.lookup x = some .local) (I : Inv T w base σ H s.heap) (F : Frm nm env base s.heap σ ρ) (hv : VR s.heap σ v val) :
    Ok prog w A (bindName env x val) s fun _ s' => StpO (fun a => a = env.locals) σ σ s s' ∧ Inv T w base σ H s'.heap ∧ Frm nm env base s'.heap σ (ρ.set i (some v)) := by
  obtain ⟨m, hm, hvs⟩ := F.ns
  refine wpAny_bindName (wpAny_storeName_local hk hm (fun h' hn hs => ?_) (by rw [F.kind]; rfl))
  obtain ⟨o, es, ep, ho, hd, _⟩ := id hm
  obtain ⟨J, k⟩ := I.but (a := env.locals) ho (fun im => im.1 _ _ hd) F.locN F.locB hs
  have e : SExt σ σ s.heap := .refl ..
  refine ⟨⟨fun b o e _ n => (hs.2 b n).trans e, .refl .., rfl, rfl, rfl⟩, J, ⟨F.kind, F.glob, F.blt, F.locN, F.locB, ⟨_, hn, fun y j hy hky u hu => ?_⟩, fun y j hy hky => ?_, F.apart, F.inj⟩⟩
  · rcases set_get hu with ⟨rfl, rfl⟩ | ⟨hij, hu⟩
    · have : y = x := F.inj _ _ _ hy hx
      subst this
      exact ⟨val, by simp, VR.step k e _ hv⟩
    · obtain ⟨val', h1, h2⟩ := hvs y j hy hky u hu
      have : y ≠ x := fun q => hij (by subst q; rw [hx] at hy; exact Option.some.inj hy)
      exact ⟨val', by simp [this, h1], VR.step k e _ h2⟩
  · obtain ⟨c, hc, hcn, hb, cv, ⟨oc, hoc, hdc⟩, hv'⟩ := F.cells y j hy hky
    have hne : c ≠ env.locals := fun q => by subst q; rw [ho] at hoc; cases hoc; rw [hd] at hdc; (first | exact nosome hdc | exact nofalse hdc | cases hdc)
    refine ⟨c, hc, hcn, hb, cv, ⟨oc, (hs.2 c hne).trans hoc, hdc⟩, fun u hu => ?_⟩
    rcases set_get hu with ⟨rfl, rfl⟩ | ⟨_, hu⟩
    · have : y = x := F.inj _ _ _ hy hx
      subst this
      rcases hky with q | q <;> rw [hk] at q <;> (first | exact nosome q | exact nofalse q | cases q)
    · obtain ⟨val', h1, h2⟩ := hv' u hu
      exact ⟨val', h1, VR.step k e _ h2⟩
theorem store_cell {x : Str} {i : Nat} {v : V} {val : Value} (hx : nfind x nm = some i) (hk : env.scope.names.lookup x = some .cell) (I : Inv T w base σ H s.heap) (F : Frm nm env base s.heap σ ρ) (hv : VR s.heap σ v val) :
    Ok prog w A (bindName env x val) s fun _ s' => StpO (Own nm env) σ σ s s' ∧ Inv T w base σ H s'.heap ∧ Frm nm env base s'.heap σ (ρ.set i (some v)) := by
  obtain ⟨m, hm, hvs⟩ := F.ns
  obtain ⟨o, es, ep, ho, hd, hrest⟩ := id hm
  obtain ⟨c, hc, hcn, hb, cv, hcell, hv'⟩ := F.cells x i hx (.inl hk)
  refine wpAny_bindName (wpAny_storeName_cell F.kind hk hc hcell (fun h' hn hs => ?_))
  obtain ⟨oc, hoc, hdc⟩ := hcell
  obtain ⟨J, k⟩ := I.but (a := c) hoc (fun im => im.2.1 _ hdc) hcn hb hs
  have e : SExt σ σ s.heap := .refl ..
  have hne : env.locals ≠ c := fun q => by rw [q] at ho; rw [ho] at hoc; cases hoc; rw [hd] at hdc; (first | exact nosome hdc | exact nofalse hdc | cases hdc)
  refine ⟨⟨fun b o e _ n => (hs.2 b fun q => n (.inr ⟨x, i, hx, .inl hk, q ▸ hc⟩)).trans e, .refl .., rfl, rfl, rfl⟩, J, ⟨F.kind, F.glob, F.blt, F.locN, F.locB, ⟨m, ⟨o, es, ep, (hs.2 _ hne).trans ho, hd, hrest⟩, fun y j hy hky u hu => ?_⟩, fun y j hy hky => ?_, F.apart, F.inj⟩⟩
  · rcases set_get hu with ⟨rfl, rfl⟩ | ⟨_, hu⟩
    · have : y = x := F.inj _ _ _ hy hx
      subst this
      rw [hk] at hky; (first | exact nosome hky | exact nofalse hky | cases hky)
    · obtain ⟨val', h1, h2⟩ := hvs y j hy hky u hu
      exact ⟨val', h1, VR.step k e _ h2⟩
  · by_cases hyx : y = x
    · subst hyx
      rw [hx] at hy; (first | exact nosome hy | exact nofalse hy | cases hy)
      refine ⟨c, hc, hcn, hb, some val, hn, fun u hu => ⟨val, rfl, ?_⟩⟩
      rcases set_get hu with ⟨_, rfl⟩ | ⟨q, _⟩
      · exact VR.step k e _ hv
      · exact absurd rfl q
    · obtain ⟨c', hc', hcn', hb', cv', ⟨oc', hoc', hdc'⟩, hv''⟩ := F.cells y j hy hky
      have hcc : c' ≠ c := fun q => hyx (F.apart _ _ _ (q ▸ hc') hc)
      refine ⟨c', hc', hcn', hb', cv', ⟨oc', (hs.2 c' hcc).trans hoc', hdc'⟩, fun u hu => ?_⟩
      rcases set_get hu with ⟨rfl, rfl⟩ | ⟨_, hu⟩
      · exact absurd (F.inj _ _ _ hy hx) hyx
      · obtain ⟨val', h1, h2⟩ := hv'' u hu
        exact ⟨val', h1, VR.step k e _ h2⟩
set_option tactic.hygienic true in
theorem store_var {x : Str} {i : Nat} {v : V} {val : Value} (hx : cVar env.scope nm x = some i) (I : Inv T w base σ H s.heap) (F : Frm nm env base s.heap σ ρ) (hv : VR s.heap σ v val) :
    Ok prog w A (bindName env x val) s fun _ s' => StpO (Own nm env) σ σ s s' ∧ Inv T w base σ H s'.heap ∧ Frm nm env base s'.heap σ (ρ.set i (some v)) := by
  unfold cVar isLocalOrCell at hx
  split at hx
  · rename_i hk
    exact (store_local hx hk I F hv).to fun _ s' h => ⟨⟨fun b o e n no => h.1.grow b o e n fun q => no (.inl q), h.1.ext, h.1.gens, h.1.drawn, h.1.os⟩, h.2⟩
  · rename_i hk
    exact store_cell hx hk I F hv
  · (first | exact nosome hx | exact nofalse hx | cases hx)
set_option tactic.hygienic true in
theorem load_var {x : Str} {i : Nat} {v : V} {pos : Pos} (hd : strEq x s_debug = false) (hcd : strEq x s_classdict = false) (hk : isVar env.scope x = true) (hx : nfind x nm = some i) (hr : ρ[i]? = some (some v)) (F : Frm nm env base s.heap σ ρ) :
    Ok prog w A (eval (.Name x pos) env) s fun val s' => s' = s ∧ VR s.heap σ v val := by
  have hd' : (x == ("__debug__" : Str)) = false := by
    rw [beq_eq_false_iff_ne]
    intro q
    rw [show ("__debug__" : Str) = s_debug by decide +kernel] at q
    rw [q, strEq_self] at hd; (first | exact nosome hd | exact nofalse hd | cases hd)
  refine wpAny_Name ?_ hd'
  unfold isVar at hk
  split at hk
  · rename_i q
    obtain ⟨m, hm, hvs⟩ := F.ns
    obtain ⟨val, h1, h2⟩ := hvs x i hx q v hr
    exact wpAny_loadName_local F.kind q hm h1 ⟨rfl, h2⟩
  · rename_i q
    obtain ⟨c, hc, hcn, hb, cv, hcell, hv'⟩ := F.cells x i hx (.inl q)
    obtain ⟨val, rfl, h2⟩ := hv' v hr
    exact wpAny_loadName_cell F.kind q hc hcell ⟨rfl, h2⟩
  · rename_i q
    obtain ⟨c, hc, hcn, hb, cv, hcell, hv'⟩ := F.cells x i hx (.inr q)
    obtain ⟨val, rfl, h2⟩ := hv' v hr
    refine wpAny_loadName_free F.kind q hc hcell ⟨rfl, h2⟩ ?_
    rw [beq_eq_false_iff_ne]
    intro q
    rw [show ("__classdict__" : Str) = s_classdict by decide +kernel] at q
    rw [q, strEq_self] at hcd; (first | exact nosome hcd | exact nofalse hcd | cases hcd)
  · (first | exact nosome hk | exact nofalse hk | cases hk)
end
end Mine
set_option linter.unusedSimpArgs false
namespace Mine
open PySem PySem.W PyProof.Rows
noncomputable def PE (T : Tb) (w : World) (base : Heap) (σ : Sg) (s : Shared) (v : V) (H' : Hp) (val : Value) (s' : Shared) : Prop := ∃ σ', Stp σ σ' s s' ∧ Inv T w base σ' H' s'.heap ∧ VR s'.heap σ' v val
noncomputable def PEs (T : Tb) (w : World) (base : Heap) (σ : Sg) (s : Shared) (l : List V) (H' : Hp) (vals : List Value) (s' : Shared) : Prop := ∃ σ', Stp σ σ' s s' ∧ Inv T w base σ' H' s'.heap ∧ VRs s'.heap σ' l vals
noncomputable def PB (T : Tb) (w : World) (base : Heap) (σ : Sg) (s : Shared) (b : Bool) (H' : Hp) (r : Bool) (s' : Shared) : Prop := r = b ∧ ∃ σ', Stp σ σ' s s' ∧ Inv T w base σ' H' s'.heap
section
variable (prog : Program) (w : World) (T : Tb) (base : Heap) (P : Pg) (C : CallT) (A : Around) (nm : Nm) (env : Env)
noncomputable def SE (e : Expr) (ir : E) : Prop := ∀ ρ H v H' σ s, evE P C ir ρ H = some (v, H') → Inv T w base σ H s.heap → Frm nm env base s.heap σ ρ → Ok prog w A (eval e env) s (PE T w base σ s v H')
noncomputable def SB (e : Expr) (ir : E) : Prop := ∀ ρ H b H' σ s, evE P C ir ρ H = some (.bool b, H') → Inv T w base σ H s.heap → Frm nm env base s.heap σ ρ → Ok prog w A (isTrue e env (eval e env)) s (PB T w base σ s b H')
structure SL (es : List Expr) (ir : E) : Prop where
  run : ∀ ρ H l H' σ s pos, evE P C ir ρ H = some (.lst l, H') → Inv T w base σ H s.heap → Frm nm env base s.heap σ ρ → Ok prog w A (spliced (backTo pos (starEach es env))) s (PEs T w base σ s l H')
  len : ∀ ρ H l H', evE P C ir ρ H = some (.lst l, H') → l.length = es.length
  plain : ∀ pos, (backTo pos (starEach es env)).any (·.1) = false
end
section
variable {prog : Program} {w : World} {T : Tb} {base : Heap} {P : Pg} {C : CallT} {A : Around} {nm : Nm} {env : Env} {s : Shared} {σ : Sg} {ρ : Rho} {H : Hp}
theorem PE.of {v : V} {val : Value} {t : Nat} (I : Inv T w base σ H s.heap) (h : VR s.heap σ v val) : PE T w base σ s v H val { s with toks := t } := ⟨σ, .toks σ s t, I, h⟩
theorem PE.of0 {v : V} {val : Value} (I : Inv T w base σ H s.heap) (h : VR s.heap σ v val) : PE T w base σ s v H val s := ⟨σ, .refl σ s, I, h⟩
theorem PE.after {σ' : Sg} {s1 s2 : Shared} {v : V} {H' : Hp} {val : Value} (a : Stp σ σ' s s1) (b : PE T w base σ' s1 v H' val s2) : PE T w base σ s v H' val s2 := by
  obtain ⟨σ2, b1, b2, b3⟩ := b
  exact ⟨σ2, a.trans b1, b2, b3⟩
theorem PB.after {σ' : Sg} {s1 s2 : Shared} {v : Bool} {H' : Hp} {r : Bool} (a : Stp σ σ' s s1) (b : PB T w base σ' s1 v H' r s2) : PB T w base σ s v H' r s2 := by
  obtain ⟨rfl, σ2, b1, b2⟩ := b
  exact ⟨rfl, σ2, a.trans b1, b2⟩
theorem PE.grown {v : V} {val : Value} {h : Heap} {t : Nat} (I : Inv T w base σ H s.heap) (g : ∀ b o, s.heap.get? b = some o → h.get? b = some o) (hv : VR h σ v val) : PE T w base σ s v H val { s with heap := h, toks := t } :=
  ⟨σ, .more g, I.more g, hv⟩
theorem se_const {c : Const} {v : V} {k : Nat} {pos : Pos} (hc : cConst c = some v) : SE prog w T base P C A nm env (.Constant c k pos) (.cst v) := by
  intro ρ H v' H' σ s h I F
  simp only [evE, Option.some.injEq, Prod.mk.injEq, e_cst, e_var, e_glob, e_nil, e_cons, e_tup, e_lst, e_lstH, e_dictH, e_and, e_or, e_not, e_neg, e_bin, e_cmp, e_cmp2, e_cmp3, e_ife, e_attr, e_sub, e_slice, e_rev, e_call, e_meth, e_new, e_sup, e_bm, e_bi, e_isi, e_comp, e_bvn] at h
  obtain ⟨rfl, rfl⟩ := h
  cases c with
  | none => cases hc; exact wpAny_pure (PE.of0 I rfl)
  | bool b => cases hc; exact wpAny_pure (PE.of0 I rfl)
  | int i => cases hc; exact wpAny_mkInt (PE.of I ⟨_, rfl⟩)
  | str x => cases hc; exact wpAny_mkText (PE.of I ⟨_, rfl⟩)
  | _ => (first | exact nosome hc | exact nofalse hc | cases hc)
set_option tactic.hygienic true in
theorem se_var {x : Str} {i : Nat} {pos : Pos} (hd : strEq x s_debug = false) (hcd : strEq x s_classdict = false) (hk : isVar env.scope x = true) (hx : nfind x nm = some i) : SE prog w T base P C A nm env (.Name x pos) (.var i) := by
  intro ρ H v' H' σ s h I F
  simp only [evE, e_cst, e_var, e_glob, e_nil, e_cons, e_tup, e_lst, e_lstH, e_dictH, e_and, e_or, e_not, e_neg, e_bin, e_cmp, e_cmp2, e_cmp3, e_ife, e_attr, e_sub, e_slice, e_rev, e_call, e_meth, e_new, e_sup, e_bm, e_bi, e_isi, e_comp, e_bvn] at h
  split at h
  · rename_i v hr
    first | (replace h := s3 h; obtain ⟨h1', h2', h3'⟩ := h; subst h1'; cases h2'; (first | exact nosome h3' | exact nofalse h3' | cases h3')) | (replace h := s2 h; obtain ⟨rfl, rfl⟩ := h) | (first | exact nosome h | exact nofalse h | cases h)
    refine (load_var hd hcd hk hx hr F).to ?_
    rintro val _ ⟨rfl, hv⟩
    exact PE.of0 I hv
  · (first | exact nosome h | exact nofalse h | cases h)
theorem spliced_snoc {x : Sem Value} {rest : List (Bool × Sem Value)} {Q : List Value → Shared → Prop} {Ex : Value → Shared → Prop} (h : wpAny (model prog w) A x (fun v s1 => wpAny (model prog w) A (spliced rest) (fun vs s2 => Q (v :: vs) s2) Ex s1) Ex s) :
    wpAny (model prog w) A (spliced ((false, x) :: rest)) Q Ex s := by
  rw [spliced]
  refine wpAny_bind (wpAny_mono h (fun v s1 h1 => ?_) fun _ _ e => e)
  refine wpAny_bind (wpAny_pure ?_)
  exact wpAny_bind (wpAny_holding (wpAny_mono h1 (fun vs s2 h2 => wpAny_pure h2) fun _ _ e => e))
noncomputable def notStar : Expr → Bool
  | .Starred .. => false
  | _ => true
theorem starEach_cons {e : Expr} {l : List Expr} (h : notStar e = true) : starEach (e :: l) env = (false, eval e env) :: starEach l env := by
  cases e <;> first | rfl | (first | exact nosome h | exact nofalse h | cases h)
theorem sl_nil : SL prog w T base P C A nm env [] .nil := by
  refine ⟨?_, ?_, fun _ => rfl⟩
  · intro ρ H l H' σ s pos h I F
    simp only [evE, Option.some.injEq, Prod.mk.injEq, V.lst.injEq, e_cst, e_var, e_glob, e_nil, e_cons, e_tup, e_lst, e_lstH, e_dictH, e_and, e_or, e_not, e_neg, e_bin, e_cmp, e_cmp2, e_cmp3, e_ife, e_attr, e_sub, e_slice, e_rev, e_call, e_meth, e_new, e_sup, e_bm, e_bi, e_isi, e_comp, e_bvn] at h
    obtain ⟨rfl, rfl⟩ := h
    exact wpAny_pure ⟨σ, .refl σ s, I, rfl⟩
  · intro ρ H l H' h
    simp only [evE, Option.some.injEq, Prod.mk.injEq, V.lst.injEq, e_cst, e_var, e_glob, e_nil, e_cons, e_tup, e_lst, e_lstH, e_dictH, e_and, e_or, e_not, e_neg, e_bin, e_cmp, e_cmp2, e_cmp3, e_ife, e_attr, e_sub, e_slice, e_rev, e_call, e_meth, e_new, e_sup, e_bm, e_bi, e_isi, e_comp, e_bvn] at h
    rw [← h.1]; rfl
set_option tactic.hygienic true in
theorem sl_cons {e : Expr} {es : List Expr} {a b : E} (hs : notStar e = true) (he : SE prog w T base P C A nm env e a) (hl : SL prog w T base P C A nm env es b) : SL prog w T base P C A nm env (e :: es) (.cons a b) := by
  refine ⟨?_, ?_, fun pos => ?_⟩
  · intro ρ H l H' σ s pos h I F
    simp only [evE, e_cst, e_var, e_glob, e_nil, e_cons, e_tup, e_lst, e_lstH, e_dictH, e_and, e_or, e_not, e_neg, e_bin, e_cmp, e_cmp2, e_cmp3, e_ife, e_attr, e_sub, e_slice, e_rev, e_call, e_meth, e_new, e_sup, e_bm, e_bi, e_isi, e_comp, e_bvn] at h
    split at h
    · rename_i v H1 h1
      split at h
      · rename_i l' H2 h2
        first | (replace h := s3 h; obtain ⟨h1', h2', h3'⟩ := h; subst h1'; cases h2'; (first | exact nosome h3' | exact nofalse h3' | cases h3')) | (replace h := s2 h; obtain ⟨rfl, rfl⟩ := h) | (first | exact nosome h | exact nofalse h | cases h)
        rw [starEach_cons hs]
        refine spliced_snoc ?_
        refine (he ρ H v H1 σ s h1 I F).to ?_
        rintro val s1 ⟨σ1, st1, I1, v1⟩
        refine (hl.run ρ H1 l' H' σ1 s1 pos h2 I1 (F.stp st1)).to ?_
        rintro vals s2 ⟨σ2, st2, I2, v2⟩
        exact ⟨σ2, st1.trans st2, I2, .cons (v1.stp st2) v2⟩
      · (first | exact nosome h | exact nofalse h | cases h)
    · (first | exact nosome h | exact nofalse h | cases h)
  · intro ρ H l H' h
    simp only [evE, e_cst, e_var, e_glob, e_nil, e_cons, e_tup, e_lst, e_lstH, e_dictH, e_and, e_or, e_not, e_neg, e_bin, e_cmp, e_cmp2, e_cmp3, e_ife, e_attr, e_sub, e_slice, e_rev, e_call, e_meth, e_new, e_sup, e_bm, e_bi, e_isi, e_comp, e_bvn] at h
    split at h
    · rename_i v H1 h1
      split at h
      · rename_i l' H2 h2
        first | (replace h := s3 h; obtain ⟨h1', h2', h3'⟩ := h; subst h1'; cases h2'; (first | exact nosome h3' | exact nofalse h3' | cases h3')) | (replace h := s2 h; obtain ⟨rfl, rfl⟩ := h) | (first | exact nosome h | exact nofalse h | cases h)
        simp [hl.len _ _ _ _ h2]
      · (first | exact nosome h | exact nofalse h | cases h)
    · (first | exact nosome h | exact nofalse h | cases h)
  · rw [starEach_cons hs]
    have := hl.plain pos
    simpa [backTo] using this
theorem fresh_none (h : Heap) : h.get? h.objs.size = none := by
  cases e : h.get? h.objs.size with
  | none => rfl
  | some o => exact absurd (Heap.lt_size e) (Nat.lt_irrefl _)
theorem push_get (h : Heap) (o : Obj) : ∀ b x, h.get? b = some x → (h.push o).get? b = some x := fun _ _ e => Heap.get?_push_of_some _ e
theorem Inv.notNew {h : Heap} (I : Inv T w base σ H h) {a : Addr} (ha : h.get? a = none) : ¬ Rng σ a := fun r => by
  obtain ⟨i, y, hy⟩ := rng_iff.mp r
  obtain ⟨z, hz⟩ := get_of_lt (l := H) (i := i) (by rw [I.len]; exact lt_of_get hy)
  obtain ⟨u, hu⟩ := (I.hr i z _ hz hy).there
  rw [ha] at hu; (first | exact nosome hu | exact nofalse hu | cases hu)
theorem Inv.newBig {h : Heap} (I : Inv T w base σ H h) : mainGlobals < h.objs.size := by
  obtain ⟨o, ho⟩ := I.glob
  exact Heap.lt_size (I.stays _ _ ho)
set_option tactic.hygienic true in
theorem se_tup {es : List Expr} {a : E} {k : Nat} {pos : Pos} (hl : SL prog w T base P C A nm env es a) (hlen : es.length ≤ 100) : SE prog w T base P C A nm env (.Tuple es k pos) (.tup a) := by
  intro ρ H v H' σ s h I F
  simp only [evE, e_cst, e_var, e_glob, e_nil, e_cons, e_tup, e_lst, e_lstH, e_dictH, e_and, e_or, e_not, e_neg, e_bin, e_cmp, e_cmp2, e_cmp3, e_ife, e_attr, e_sub, e_slice, e_rev, e_call, e_meth, e_new, e_sup, e_bm, e_bi, e_isi, e_comp, e_bvn] at h
  split at h
  · rename_i l H1 h1
    first | (replace h := s3 h; obtain ⟨h1', h2', h3'⟩ := h; subst h1'; cases h2'; (first | exact nosome h3' | exact nofalse h3' | cases h3')) | (replace h := s2 h; obtain ⟨rfl, rfl⟩ := h) | (first | exact nosome h | exact nofalse h | cases h)
    refine Tuple_ ((hl.run ρ H l H' σ s pos h1 I F).to ?_)
    rintro vals s1 ⟨σ1, st1, I1, v1⟩
    refine wpAny_newObj_type (Q := PE T w base σ s (.tup l) H') ?_ ?_
    · refine PE.after st1 (PE.grown (t := s1.toks) I1 (push_get _ _) ⟨_, vals.toArray, rfl, ⟨_, Heap.get?_push_size _ rfl, rfl, 0, rfl⟩, I1.notNew (fresh_none _), ?_⟩)
      exact VRs.step (fun b o e _ _ => push_get _ _ b o e) (.refl ..) _ v1
    · show vals.toArray.size ≤ sizeLine
      rw [sizeLine_eq, List.size_toArray, ← v1.length, hl.len _ _ _ _ h1]
      omega
  · (first | exact nosome h | exact nofalse h | cases h)
theorem newList_ok {l : List V} {vals : List Value} (I : Inv T w base σ H s.heap) (hv : VRs s.heap σ l vals) (hlen : l.length ≤ cap) : Ok prog w A (newList vals) s (PE T w base σ s (.lst l) H) := by
  refine wpAny_newObj_type (Q := PE T w base σ s (.lst l) H) ?_ ?_
  · refine PE.grown (t := s.toks) I (push_get _ _) ⟨_, vals.toArray, rfl, ⟨_, Heap.get?_push_size _ rfl, rfl, 0, rfl⟩, I.notNew (fresh_none _), ?_⟩
    exact VRs.step (fun b o e _ _ => push_get _ _ b o e) (.refl ..) _ hv
  · show vals.toArray.size ≤ sizeLine
    rw [sizeLine_eq, List.size_toArray, ← hv.length]
    unfold cap at hlen
    omega
theorem newListH_ok {l : List V} {vals : List Value} (I : Inv T w base σ H s.heap) (hv : VRs s.heap σ l vals) (hlen : l.length ≤ cap) : Ok prog w A (newList vals) s (PE T w base σ s (.ref H.length) (H ++ [.list l])) := by
  refine wpAny_newObj_type (Q := PE T w base σ s (.ref H.length) (H ++ [.list l])) ?_ ?_
  · have g := push_get s.heap ({ cls := .type "list", data := .seq vals.toArray } : Obj)
    have e0 : SExt σ (σ ++ [some (s.heap.objs.size, s.heap.objs.size)]) s.heap := by
      refine ⟨by simp, fun i hi => .inl ?_, fun b r => ?_⟩
      · rw [List.getElem?_append_left hi]
      · rcases rng_snoc.mp r with q | ⟨y, q⟩
        · exact .inl q
        · cases q; exact .inr (fresh_none _)
    obtain ⟨J, e⟩ := I.add (h' := s.heap.push { cls := .type "list", data := .seq vals.toArray }) (x := s.heap.objs.size) (d := s.heap.objs.size) (o := .list l) g (fresh_none _) I.newBig
      ⟨_, vals.toArray, rfl, ⟨0, Heap.get?_push_size _ rfl⟩, VRs.step (fun b o e _ _ => g b o e) e0 _ hv⟩
    refine ⟨_, ⟨fun b o e _ => g b o e, e, rfl, rfl, rfl⟩, J, by simp [I.len], s.heap.objs.size, rfl, fun p hp => ?_⟩
    rw [I.len] at hp
    simp at hp
    rw [← hp]
  · show vals.toArray.size ≤ sizeLine
    rw [sizeLine_eq, List.size_toArray, ← hv.length]
    unfold cap at hlen
    omega
set_option tactic.hygienic true in
theorem se_lst {es : List Expr} {a : E} {pos : Pos} (hl : SL prog w T base P C A nm env es a) (hlen : es.length ≤ 100) : SE prog w T base P C A nm env (.List es pos) (.lst a) := by
  intro ρ H v H' σ s h I F
  simp only [evE, e_cst, e_var, e_glob, e_nil, e_cons, e_tup, e_lst, e_lstH, e_dictH, e_and, e_or, e_not, e_neg, e_bin, e_cmp, e_cmp2, e_cmp3, e_ife, e_attr, e_sub, e_slice, e_rev, e_call, e_meth, e_new, e_sup, e_bm, e_bi, e_isi, e_comp, e_bvn] at h
  split at h
  · rename_i l H1 h1
    first | (replace h := s3 h; obtain ⟨h1', h2', h3'⟩ := h; subst h1'; cases h2'; (first | exact nosome h3' | exact nofalse h3' | cases h3')) | (replace h := s2 h; obtain ⟨rfl, rfl⟩ := h) | (first | exact nosome h | exact nofalse h | cases h)
    refine List_ ((hl.run ρ H l H' σ s pos h1 I F).to ?_)
    rintro vals s1 ⟨σ1, st1, I1, v1⟩
    exact (newList_ok I1 v1 (by rw [hl.len _ _ _ _ h1]; unfold cap; omega)).to fun _ _ => PE.after st1
  · (first | exact nosome h | exact nofalse h | cases h)
set_option tactic.hygienic true in
theorem se_lstH {es : List Expr} {a : E} {pos : Pos} (hl : SL prog w T base P C A nm env es a) (hlen : es.length ≤ 100) : SE prog w T base P C A nm env (.List es pos) (.lstH a) := by
  intro ρ H v H' σ s h I F
  simp only [evE, e_cst, e_var, e_glob, e_nil, e_cons, e_tup, e_lst, e_lstH, e_dictH, e_and, e_or, e_not, e_neg, e_bin, e_cmp, e_cmp2, e_cmp3, e_ife, e_attr, e_sub, e_slice, e_rev, e_call, e_meth, e_new, e_sup, e_bm, e_bi, e_isi, e_comp, e_bvn] at h
  split at h
  · rename_i l H1 h1
    first | (replace h := s3 h; obtain ⟨h1', h2', h3'⟩ := h; subst h1'; cases h2'; (first | exact nosome h3' | exact nofalse h3' | cases h3')) | (replace h := s2 h; obtain ⟨rfl, rfl⟩ := h) | (first | exact nosome h | exact nofalse h | cases h)
    refine List_ ((hl.run ρ H l _ σ s pos h1 I F).to ?_)
    rintro vals s1 ⟨σ1, st1, I1, v1⟩
    exact (newListH_ok I1 v1 (by rw [hl.len _ _ _ _ h1]; unfold cap; omega)).to fun _ _ => PE.after st1
  · (first | exact nosome h | exact nofalse h | cases h)
end
end Mine
set_option linter.unusedSimpArgs false
namespace Mine
open PySem PySem.W PyProof.Rows PySem.MeetsSeq
section
variable {h : Heap} {σ : Sg}
theorem noBoth {a : Addr} {i j : Array Value} (x : h.IsList a i) (y : h.IsTuple a j) : False := by
  obtain ⟨o, ho, hc, _⟩ := x
  obtain ⟨o', ho', hc', _⟩ := y
  rw [ho] at ho'; (first | exact nosome ho' | exact nofalse ho' | cases ho')
  rw [hc] at hc'; injection hc' with e
  revert e; decide
theorem list_items {a : Addr} {i j : Array Value} (x : h.IsList a i) (y : h.IsList a j) : i = j := by
  obtain ⟨o, ho, _, _, hd⟩ := x
  obtain ⟨o', ho', _, _, hd'⟩ := y
  rw [ho] at ho'; (first | exact nosome ho' | exact nofalse ho' | cases ho')
  rw [hd] at hd'; injection hd'
theorem tuple_items {a : Addr} {i j : Array Value} (x : h.IsTuple a i) (y : h.IsTuple a j) : i = j := by
  obtain ⟨o, ho, _, _, hd⟩ := x
  obtain ⟨o', ho', _, _, hd'⟩ := y
  rw [ho] at ho'; (first | exact nosome ho' | exact nofalse ho' | cases ho')
  rw [hd] at hd'; injection hd'
set_option tactic.hygienic true in
theorem eqs_same {f : V → V → Option Bool} (hf : ∀ x y v r, f x y = some r → VR h σ x v → VR h σ y v → r = true) : ∀ {l r : List V} {vs : List Value} {q : Bool}, eqsN f l r = some q → VRs h σ l vs → VRs h σ r vs → q = true
  | [], [], _, _, e, _, _ => by cases e; rfl
  | x :: l, y :: r, vs, q, e, H1, H2 => by
    obtain ⟨v, vs', rfl, a, b⟩ := H1
    obtain ⟨v', vs'', e', a', b'⟩ := H2
    (first | exact nosome e' | exact nofalse e' | cases e')
    simp only [eqsN] at e
    split at e
    · rename_i p q' h1 h2
      first | (replace e := s3 e; obtain ⟨h1', h2', h3'⟩ := e; subst h1'; cases h2'; (first | exact nosome h3' | exact nofalse h3' | cases h3')) | (replace e := s2 e; obtain ⟨rfl, rfl⟩ := e) | (first | exact nosome e | exact nofalse e | cases e)
      rw [hf _ _ _ _ h1 a a', eqs_same hf h2 b b']; rfl
    · (first | exact nosome e | exact nofalse e | cases e)
  | [], y :: r, vs, q, e, H1, H2 => by
    rw [show vs = [] from H1] at H2
    obtain ⟨_, _, z, _⟩ := H2; (first | exact nosome z | exact nofalse z | cases z)
  | x :: l, [], vs, q, e, H1, H2 => by
    rw [show vs = [] from H2] at H1
    obtain ⟨_, _, z, _⟩ := H1; (first | exact nosome z | exact nofalse z | cases z)
theorem eq_same : ∀ (n : Nat) (x y : V) (v : Value) (r : Bool), eqN n x y = some r → VR h σ x v → VR h σ y v → r = true
  | 0, _, _, _, _, e, _, _ => by (first | exact nosome e | exact nofalse e | cases e)
  | n + 1, x, y, v, r, e, H1, H2 => by
    cases x <;> cases y <;> simp only [eqN, noRef, Option.some.injEq, reduceCtorEq] at e <;> simp only [VR] at H1 H2
    all_goals first
      | (subst e; rfl)
      | (obtain ⟨t, rfl⟩ := H1; obtain ⟨t', e'⟩ := H2; cases e'; subst e; first | exact intEq_iff.mpr rfl | exact strEq_self _)
      | (subst H1; cases H2; subst e; simp; done)
      | (exfalso; subst H1; cases H2; done)
      | (exfalso; subst H1; obtain ⟨_, q⟩ := H2; cases q; done)
      | (exfalso; subst H1; obtain ⟨_, _, q, _⟩ := H2; cases q; done)
      | (exfalso; subst H2; obtain ⟨_, q⟩ := H1; cases q; done)
      | (exfalso; subst H2; obtain ⟨_, _, q, _⟩ := H1; cases q; done)
      | (exfalso; obtain ⟨_, rfl⟩ := H1; obtain ⟨_, q⟩ := H2; cases q; done)
      | (exfalso; obtain ⟨_, rfl⟩ := H1; obtain ⟨_, _, q, _⟩ := H2; cases q; done)
      | (exfalso; obtain ⟨_, rfl⟩ := H2; obtain ⟨_, _, q, _⟩ := H1; cases q; done)
      | (obtain ⟨a, i, rfl, ht, _, hs⟩ := H1; obtain ⟨a', i', q, ht', _, hs'⟩ := H2; cases q; cases tuple_items ht ht'; exact eqs_same (eq_same n) e hs hs')
      | (obtain ⟨a, i, rfl, ht, _, hs⟩ := H1; obtain ⟨a', i', q, ht', _, hs'⟩ := H2; cases q; cases list_items ht ht'; exact eqs_same (eq_same n) e hs hs')
      | (exfalso; obtain ⟨a, i, rfl, ht, _, hs⟩ := H1; obtain ⟨a', i', q, ht', _, hs'⟩ := H2; cases q; first | exact noBoth ht ht' | exact noBoth ht' ht)
set_option tactic.hygienic true in
theorem eqs_inj {f : V → V → Option Bool} (hf : ∀ x y k v b b', VR h σ x v → VR h σ y v → f x k = some b → f y k = some b' → b = b') : ∀ {l r k : List V} {vs : List Value} {b b' : Bool}, VRs h σ l vs → VRs h σ r vs → eqsN f l k = some b → eqsN f r k = some b' → b = b'
  | [], [], _, _, _, _, _, _, e, e' => by rw [e] at e'; exact Option.some.inj e'
  | x :: l, y :: r, [], _, _, _, _, _, e, e' => by cases e; cases e'; rfl
  | x :: l, y :: r, z :: k, vs, b, b', H1, H2, e, e' => by
    obtain ⟨v, vs', rfl, a, c⟩ := H1
    obtain ⟨v', vs'', q, a', c'⟩ := H2
    (first | exact nosome q | exact nofalse q | cases q)
    simp only [eqsN] at e e'
    split at e
    · rename_i p q h1 h2
      split at e'
      · rename_i p' q' h1' h2'
        cases e; (first | exact nosome e' | exact nofalse e' | cases e')
        rw [hf _ _ _ _ _ _ a a' h1 h1', eqs_inj hf c c' h2 h2']
      · (first | exact nosome e' | exact nofalse e' | cases e')
    · (first | exact nosome e | exact nofalse e | cases e)
  | [], y :: r, _, vs, _, _, H1, H2, _, _ => by
    rw [show vs = [] from H1] at H2
    obtain ⟨_, _, z, _⟩ := H2; (first | exact nosome z | exact nofalse z | cases z)
  | x :: l, [], _, vs, _, _, H1, H2, _, _ => by
    rw [show vs = [] from H2] at H1
    obtain ⟨_, _, z, _⟩ := H1; (first | exact nosome z | exact nofalse z | cases z)
theorem eq_inj : ∀ (n : Nat) (x y k : V) (v : Value) (b b' : Bool), VR h σ x v → VR h σ y v → eqN n x k = some b → eqN n y k = some b' → b = b'
  | 0, _, _, _, _, _, _, _, _, e, _ => by (first | exact nosome e | exact nofalse e | cases e)
  | n + 1, x, y, k, v, b, b', H1, H2, e, e' => by
    have same : x = y → b = b' := fun q => by subst q; rw [e] at e'; exact Option.some.inj e'
    cases x <;> cases y <;> simp only [VR] at H1 H2
    all_goals first
      | exact same rfl
      | (obtain ⟨t, rfl⟩ := H1; obtain ⟨t', q⟩ := H2; cases q; exact same rfl)
      | (subst H1; cases H2; exact same rfl)
      | (exfalso; subst H1; cases H2; done)
      | (exfalso; subst H1; obtain ⟨_, q⟩ := H2; cases q; done)
      | (exfalso; subst H1; obtain ⟨_, _, q, _⟩ := H2; cases q; done)
      | (exfalso; subst H1; obtain ⟨_, _, _, _, q, _⟩ := H2; cases q; done)
      | (exfalso; subst H2; obtain ⟨_, q⟩ := H1; cases q; done)
      | (exfalso; subst H2; obtain ⟨_, _, q, _⟩ := H1; cases q; done)
      | (exfalso; subst H2; obtain ⟨_, _, _, _, q, _⟩ := H1; cases q; done)
      | (exfalso; obtain ⟨_, rfl⟩ := H1; obtain ⟨_, q⟩ := H2; cases q; done)
      | (exfalso; obtain ⟨_, rfl⟩ := H1; obtain ⟨_, _, q, _⟩ := H2; cases q; done)
      | (exfalso; obtain ⟨_, rfl⟩ := H1; obtain ⟨_, _, _, _, q, _⟩ := H2; cases q; done)
      | (exfalso; obtain ⟨_, rfl⟩ := H2; obtain ⟨_, _, q, _⟩ := H1; cases q; done)
      | (exfalso; obtain ⟨_, rfl⟩ := H2; obtain ⟨_, _, _, _, q, _⟩ := H1; cases q; done)
      | (exfalso; cases k <;> simp [eqN, noRef] at e; done)
      | (exfalso; cases k <;> simp [eqN, noRef] at e'; done)
      | (exfalso; obtain ⟨a, i, rfl, ht, _, hs⟩ := H1; obtain ⟨a', i', q, ht', _, hs'⟩ := H2; cases q; first | exact noBoth ht ht' | exact noBoth ht' ht)
      | (obtain ⟨a, i, rfl, ht, _, hs⟩ := H1; obtain ⟨a', i', q, ht', _, hs'⟩ := H2; cases q; cases tuple_items ht ht'; cases k <;> simp only [eqN, noRef, Option.some.injEq, reduceCtorEq] at e e' <;> first | (rw [← e, ← e']; done) | exact eqs_inj (eq_inj n) hs hs' e e')
      | (obtain ⟨a, i, rfl, ht, _, hs⟩ := H1; obtain ⟨a', i', q, ht', _, hs'⟩ := H2; cases q; cases list_items ht ht'; cases k <;> simp only [eqN, noRef, Option.some.injEq, reduceCtorEq] at e e' <;> first | (rw [← e, ← e']; done) | exact eqs_inj (eq_inj n) hs hs' e e')
end
noncomputable def atE (f : V → V → Option Bool) (l r : List V) (j : Nat) : Bool := match l[j]?, r[j]? with
  | some x, some y => (f x y).getD false
  | _, _ => false
theorem all_range_succ (p : Nat → Bool) (n : Nat) : (List.range (n + 1)).all p = (p 0 && (List.range n).all fun j => p (j + 1)) := by
  rw [List.range_succ_eq_map, List.all_cons, List.all_map]; rfl
set_option tactic.hygienic true in
theorem eqs_all {f : V → V → Option Bool} : ∀ {l r : List V} {q : Bool}, eqsN f l r = some q →
    ((List.range (min l.length r.length)).all (atE f l r) && l.length == r.length) = q ∧ ∀ j x y, l[j]? = some x → r[j]? = some y → f x y = some (atE f l r j)
  | [], [], q, e => by cases e; exact ⟨rfl, fun j x y a => by simp at a⟩
  | [], y :: r, q, e => by cases e; exact ⟨rfl, fun j x y a => by simp at a⟩
  | x :: l, [], q, e => by cases e; exact ⟨rfl, fun j x y _ a => by simp at a⟩
  | x :: l, y :: r, q, e => by
    simp only [eqsN] at e
    split at e
    · rename_i p q' h1 h2
      first | (replace e := s3 e; obtain ⟨h1', h2', h3'⟩ := e; subst h1'; cases h2'; (first | exact nosome h3' | exact nofalse h3' | cases h3')) | (replace e := s2 e; obtain ⟨rfl, rfl⟩ := e) | (first | exact nosome e | exact nofalse e | cases e)
      obtain ⟨h3, h4⟩ := eqs_all h2
      refine ⟨?_, fun j a b ha hb => ?_⟩
      · have h0 : atE f (x :: l) (y :: r) 0 = p := by simp [atE, h1]
        have hs : (fun j => atE f (x :: l) (y :: r) (j + 1)) = atE f l r := by funext j; simp [atE]
        rw [List.length_cons, List.length_cons, Nat.succ_min_succ, all_range_succ, h0, hs, Bool.and_assoc, ← h3]
        congr 2
        simp
      · cases j with
        | zero => simp at ha hb; subst ha hb; simp [atE, h1]
        | succ j => simp at ha hb; simpa [atE] using h4 j a b ha hb
    · (first | exact nosome e | exact nofalse e | cases e)
section
variable {A : Around} {s : Shared} {σ : Sg}
open PySem.SeqAt
theorem intEq_beq (a b : Int) : intEq a b = (a == b) := by rw [intEq_eq]; rfl
theorem strEq_beq (a b : Str) : strEq a b = (a == b) := by
  by_cases h : a = b
  · subst h; rw [strEq_self]; exact (beq_self_eq_true a).symm
  · rw [strEq_ne h]; exact (beq_eq_false_iff_ne.mpr h).symm
set_option tactic.hygienic true in
theorem eq_ok : ∀ (n : Nat) (A : Around) (x y : V) (a b : Value) (r : Bool), A.units + n < cLine → eqN n x y = some r → VR s.heap σ x a → VR s.heap σ y b → RcAt A s a b r ∧ EqAt A s a b r
  | 0, _, _, _, _, _, _, _, e, _, _ => by (first | exact nosome e | exact nofalse e | cases e)
  | n + 1, A, x, y, a, b, r, hu, e, H1, H2 => by
    have hu' : A.units < cLine := by omega
    have key : RcAt A s a b r ∧ ((∀ l m, ¬ (a = .ref l ∧ b = .ref m)) → EqAt A s a b r) := by
      cases x <;> cases y <;> simp only [eqN, noRef, Option.some.injEq, reduceCtorEq] at e <;> simp only [VR] at H1 H2
      case none.bool => subst H1; subst H2; subst e; exact ⟨RcAt.none_bool _, fun _ => EqAt.none_bool _⟩
      case none.int => subst H1; obtain ⟨t2, rfl⟩ := H2; subst e; exact ⟨RcAt.none_int _ _, fun _ => EqAt.none_int _ _⟩
      case none.str => subst H1; obtain ⟨t2, rfl⟩ := H2; subst e; exact ⟨RcAt.none_str _ _, fun _ => EqAt.none_str _ _⟩
      case none.tup => subst H1; obtain ⟨a2, i2, rfl, ht2, _, hs2⟩ := H2; subst e; exact ⟨RcAt.none_tuple ht2 hu', fun _ => EqAt.none_tuple ht2 hu'⟩
      case none.lst => subst H1; obtain ⟨a2, i2, rfl, ht2, _, hs2⟩ := H2; subst e; exact ⟨RcAt.none_list ht2 hu', fun _ => EqAt.none_list ht2 hu'⟩
      case bool.none => subst H1; subst H2; subst e; exact ⟨RcAt.bool_none _, fun _ => EqAt.bool_none _⟩
      case bool.str => subst H1; obtain ⟨t2, rfl⟩ := H2; subst e; exact ⟨RcAt.bool_str _ _ _, fun _ => EqAt.bool_str _ _ _⟩
      case bool.tup => subst H1; obtain ⟨a2, i2, rfl, ht2, _, hs2⟩ := H2; subst e; exact ⟨RcAt.bool_tuple _ ht2 hu', fun _ => EqAt.bool_tuple _ ht2 hu'⟩
      case bool.lst => subst H1; obtain ⟨a2, i2, rfl, ht2, _, hs2⟩ := H2; subst e; exact ⟨RcAt.bool_list _ ht2 hu', fun _ => EqAt.bool_list _ ht2 hu'⟩
      case int.none => obtain ⟨t1, rfl⟩ := H1; subst H2; subst e; exact ⟨RcAt.int_none _ _, fun _ => EqAt.int_none _ _⟩
      case int.str => obtain ⟨t1, rfl⟩ := H1; obtain ⟨t2, rfl⟩ := H2; subst e; exact ⟨RcAt.int_str _ _ _ _, fun _ => EqAt.int_str _ _ _ _⟩
      case int.tup => obtain ⟨t1, rfl⟩ := H1; obtain ⟨a2, i2, rfl, ht2, _, hs2⟩ := H2; subst e; exact ⟨RcAt.int_tuple _ _ ht2 hu', fun _ => EqAt.int_tuple _ _ ht2 hu'⟩
      case int.lst => obtain ⟨t1, rfl⟩ := H1; obtain ⟨a2, i2, rfl, ht2, _, hs2⟩ := H2; subst e; exact ⟨RcAt.int_list _ _ ht2 hu', fun _ => EqAt.int_list _ _ ht2 hu'⟩
      case str.none => obtain ⟨t1, rfl⟩ := H1; subst H2; subst e; exact ⟨RcAt.str_none _ _, fun _ => EqAt.str_none _ _⟩
      case str.bool => obtain ⟨t1, rfl⟩ := H1; subst H2; subst e; exact ⟨RcAt.str_bool _ _ _, fun _ => EqAt.str_bool _ _ _⟩
      case str.int => obtain ⟨t1, rfl⟩ := H1; obtain ⟨t2, rfl⟩ := H2; subst e; exact ⟨RcAt.str_int _ _ _ _, fun _ => EqAt.str_int _ _ _ _⟩
      case str.tup => obtain ⟨t1, rfl⟩ := H1; obtain ⟨a2, i2, rfl, ht2, _, hs2⟩ := H2; subst e; exact ⟨RcAt.str_tuple _ _ ht2 hu', fun _ => EqAt.str_tuple _ _ ht2 hu'⟩
      case str.lst => obtain ⟨t1, rfl⟩ := H1; obtain ⟨a2, i2, rfl, ht2, _, hs2⟩ := H2; subst e; exact ⟨RcAt.str_list _ _ ht2 hu', fun _ => EqAt.str_list _ _ ht2 hu'⟩
      case tup.none => obtain ⟨a1, i1, rfl, ht1, _, hs1⟩ := H1; subst H2; subst e; exact ⟨RcAt.tuple_none ht1 hu', fun _ => EqAt.tuple_none ht1 hu'⟩
      case tup.bool => obtain ⟨a1, i1, rfl, ht1, _, hs1⟩ := H1; subst H2; subst e; exact ⟨RcAt.tuple_bool _ ht1 hu', fun _ => EqAt.tuple_bool _ ht1 hu'⟩
      case tup.int => obtain ⟨a1, i1, rfl, ht1, _, hs1⟩ := H1; obtain ⟨t2, rfl⟩ := H2; subst e; exact ⟨RcAt.tuple_int _ _ ht1 hu', fun _ => EqAt.tuple_int _ _ ht1 hu'⟩
      case tup.str => obtain ⟨a1, i1, rfl, ht1, _, hs1⟩ := H1; obtain ⟨t2, rfl⟩ := H2; subst e; exact ⟨RcAt.tuple_str _ _ ht1 hu', fun _ => EqAt.tuple_str _ _ ht1 hu'⟩
      case tup.lst => obtain ⟨a1, i1, rfl, ht1, _, hs1⟩ := H1; obtain ⟨a2, i2, rfl, ht2, _, hs2⟩ := H2; subst e; exact ⟨RcAt.tuple_list ht1 ht2 hu', fun _ => EqAt.tuple_list ht1 ht2 hu'⟩
      case lst.none => obtain ⟨a1, i1, rfl, ht1, _, hs1⟩ := H1; subst H2; subst e; exact ⟨RcAt.list_none ht1 hu', fun _ => EqAt.list_none ht1 hu'⟩
      case lst.bool => obtain ⟨a1, i1, rfl, ht1, _, hs1⟩ := H1; subst H2; subst e; exact ⟨RcAt.list_bool _ ht1 hu', fun _ => EqAt.list_bool _ ht1 hu'⟩
      case lst.int => obtain ⟨a1, i1, rfl, ht1, _, hs1⟩ := H1; obtain ⟨t2, rfl⟩ := H2; subst e; exact ⟨RcAt.list_int _ _ ht1 hu', fun _ => EqAt.list_int _ _ ht1 hu'⟩
      case lst.str => obtain ⟨a1, i1, rfl, ht1, _, hs1⟩ := H1; obtain ⟨t2, rfl⟩ := H2; subst e; exact ⟨RcAt.list_str _ _ ht1 hu', fun _ => EqAt.list_str _ _ ht1 hu'⟩
      case lst.tup => obtain ⟨a1, i1, rfl, ht1, _, hs1⟩ := H1; obtain ⟨a2, i2, rfl, ht2, _, hs2⟩ := H2; subst e; exact ⟨RcAt.list_tuple ht1 ht2 hu', fun _ => EqAt.list_tuple ht1 ht2 hu'⟩
      case none.none => subst H1; subst H2; subst e; exact ⟨RcAt.none_none, fun _ => EqAt.same _⟩
      case bool.bool => subst H1; subst H2; subst e; exact ⟨RcAt.bool_bool _ _, fun _ => EqAt.bool_bool _ _⟩
      case int.int x y => obtain ⟨t1, rfl⟩ := H1; obtain ⟨t2, rfl⟩ := H2; subst e; rw [intEq_beq]; exact ⟨RcAt.int_int _ _ _ _, fun _ => EqAt.int_int _ _ _ _⟩
      case str.str x y => obtain ⟨t1, rfl⟩ := H1; obtain ⟨t2, rfl⟩ := H2; subst e; rw [strEq_beq]; exact ⟨RcAt.str_str _ _ _ _, fun _ => EqAt.str_str _ _ _ _⟩
      case tup.tup l l' =>
        obtain ⟨a1, i1, rfl, ht1, _, hs1⟩ := H1
        obtain ⟨a2, i2, rfl, ht2, _, hs2⟩ := H2
        obtain ⟨ha, hb⟩ := eqs_all e
        have he : ∀ j (h1 : j < i1.size) (h2 : j < i2.size), EqAt A.in1 s i1[j] i2[j] (atE (eqN n) l l' j) := fun j h1 h2 => by
          obtain ⟨x, hx, vx⟩ := hs1.getR (i := j) (v := i1[j]) (by simp [h1])
          obtain ⟨y, hy, vy⟩ := hs2.getR (i := j) (v := i2[j]) (by simp [h2])
          exact (eq_ok n A.in1 x y _ _ _ (by show A.units + 1 + n < cLine; omega) (hb j x y hx hy) vx vy).2
        have n1 : l.length = i1.size := by rw [hs1.length, Array.length_toList]
        have n2 : l'.length = i2.size := by rw [hs2.length, Array.length_toList]
        refine ⟨?_, fun q => absurd ⟨rfl, rfl⟩ (q _ _)⟩
        rw [n1, n2] at ha
        rw [← ha]
        exact RcAt.tuples ht1 ht2 hu' he
      case lst.lst l l' =>
        obtain ⟨a1, i1, rfl, ht1, _, hs1⟩ := H1
        obtain ⟨a2, i2, rfl, ht2, _, hs2⟩ := H2
        obtain ⟨ha, hb⟩ := eqs_all e
        have he : ∀ j (h1 : j < i1.size) (h2 : j < i2.size), EqAt A.in1 s i1[j] i2[j] (atE (eqN n) l l' j) := fun j h1 h2 => by
          obtain ⟨x, hx, vx⟩ := hs1.getR (i := j) (v := i1[j]) (by simp [h1])
          obtain ⟨y, hy, vy⟩ := hs2.getR (i := j) (v := i2[j]) (by simp [h2])
          exact (eq_ok n A.in1 x y _ _ _ (by show A.units + 1 + n < cLine; omega) (hb j x y hx hy) vx vy).2
        have n1 : l.length = i1.size := by rw [hs1.length, Array.length_toList]
        have n2 : l'.length = i2.size := by rw [hs2.length, Array.length_toList]
        refine ⟨?_, fun q => absurd ⟨rfl, rfl⟩ (q _ _)⟩
        rw [n1, n2] at ha
        by_cases hz : i1.size = i2.size
        · have : r = (List.range i1.size).all (atE (eqN n) l l') := by rw [← ha, hz]; simp
          rw [this]
          exact RcAt.lists ht1 ht2 hz hu' he
        · have : r = false := by rw [← ha]; simp [hz]
          rw [this]
          exact RcAt.lists_lengths ht1 ht2 (by simpa using hz) hu'
    refine ⟨key.1, ?_⟩
    by_cases hr : ∃ l m, a = .ref l ∧ b = .ref m
    · obtain ⟨l, m, rfl, rfl⟩ := hr
      by_cases hlm : l = m
      · subst hlm
        rw [eq_same _ _ _ _ _ e H1 H2]
        exact EqAt.same _
      · exact EqAt.of_refs hlm key.1
    · exact key.2 fun l m q => hr ⟨l, m, q⟩
end
end Mine
set_option linter.unusedSimpArgs false
namespace Mine
open PySem PySem.W PyProof.Rows PySem.MeetsSeq PySem.SeqAt
noncomputable def eOf (l : List V) (vs : List Value) (k : V) (v : Value) : Bool := match (vs.zip l).find? (fun p => p.1 == v) with
  | some p => (V.eq? p.2 k).getD false
  | none => false
theorem VRs.zip_mem {h : Heap} {σ : Sg} : ∀ {l : List V} {vs : List Value}, VRs h σ l vs → ∀ p ∈ vs.zip l, VR h σ p.2 p.1 ∧ p.2 ∈ l ∧ p.1 ∈ vs
  | [], _, H, p, hp => by simp at hp
  | x :: l, _, H, p, hp => by
    obtain ⟨v, r, rfl, a, b⟩ := H
    rw [List.zip_cons_cons] at hp
    rcases List.mem_cons.mp hp with rfl | hp
    · exact ⟨a, .head _, .head _⟩
    · obtain ⟨h1, h2, h3⟩ := b.zip_mem p hp
      exact ⟨h1, .tail _ h2, .tail _ h3⟩
theorem VRs.mem_zip {h : Heap} {σ : Sg} : ∀ {l : List V} {vs : List Value}, VRs h σ l vs → ∀ v ∈ vs, ∃ x, (v, x) ∈ vs.zip l
  | [], _, H, v, hv => by rw [show _ = [] from H] at hv; (first | exact nosome hv | exact nofalse hv | cases hv)
  | x :: l, _, H, v, hv => by
    obtain ⟨u, r, rfl, a, b⟩ := H
    rcases List.mem_cons.mp hv with rfl | hv
    · exact ⟨x, by simp⟩
    · obtain ⟨y, hy⟩ := b.mem_zip v hv
      exact ⟨y, by rw [List.zip_cons_cons]; exact .tail _ hy⟩
theorem eOf_at {h : Heap} {σ : Sg} {l : List V} {vs : List Value} {k : V} (H : VRs h σ l vs) (ha : ∀ x ∈ l, ∃ b, V.eq? x k = some b) {v : Value} (hv : v ∈ vs) :
    ∃ x ∈ l, VR h σ x v ∧ V.eq? x k = some (eOf l vs k v) := by
  unfold eOf
  cases q : (vs.zip l).find? (fun p => p.1 == v) with
  | none =>
    obtain ⟨x, hx⟩ := H.mem_zip v hv
    have := List.find?_eq_none.mp q _ hx
    simp at this
  | some p =>
    have hp := List.mem_of_find?_eq_some q
    have hk := List.find?_some q
    obtain ⟨h1, h2, _⟩ := H.zip_mem p hp
    have hk : p.1 = v := by simpa using hk
    obtain ⟨b, hb⟩ := ha _ h2
    exact ⟨p.2, h2, hk ▸ h1, by simp [hb]⟩
theorem eOf_is {h : Heap} {σ : Sg} {l : List V} {vs : List Value} {k : V} (H : VRs h σ l vs) (ha : ∀ x ∈ l, ∃ b, V.eq? x k = some b) {v : Value} (hv : v ∈ vs) {x : V} (hx : VR h σ x v) {b : Bool} (hb : V.eq? x k = some b) : eOf l vs k v = b := by
  obtain ⟨y, _, hy, e⟩ := eOf_at H ha hv
  exact eq_inj 6 _ _ _ _ _ _ hy hx e hb
set_option tactic.hygienic true in
theorem any_some : ∀ {l : List V} {k : V} {r : Bool}, anyEq k l = some r → ∀ x ∈ l, ∃ b, V.eq? x k = some b
  | [], _, _, _, x, hx => by (first | exact nosome hx | exact nofalse hx | cases hx)
  | y :: l, k, r, e, x, hx => by
    simp only [anyEq] at e
    split at e
    · rename_i a b h1 h2
      rcases List.mem_cons.mp hx with rfl | hx
      · exact ⟨a, h1⟩
      · exact any_some h2 x hx
    · (first | exact nosome e | exact nofalse e | cases e)
set_option tactic.hygienic true in
theorem any_is {h : Heap} {σ : Sg} {e : Value → Bool} {k : V} : ∀ {l : List V} {vs : List Value} {r : Bool}, VRs h σ l vs → anyEq k l = some r → (∀ v ∈ vs, ∀ x, VR h σ x v → ∀ b, V.eq? x k = some b → e v = b) → vs.any e = r
  | [], _, r, H, q, _ => by rw [show _ = [] from H]; cases q; rfl
  | x :: l, _, r, H, q, he => by
    obtain ⟨v, vs, rfl, a, b⟩ := H
    simp only [anyEq] at q
    split at q
    · rename_i p p' h1 h2
      (first | exact nosome q | exact nofalse q | cases q)
      rw [List.any_cons, he v (.head _) x a p h1, any_is b h2 fun u hu => he u (.tail _ hu)]
    · (first | exact nosome q | exact nofalse q | cases q)
section
variable {prog : Program} {w : World} {T : Tb} {base : Heap} {A : Around} {s : Shared} {σ : Sg} {H : Hp}
theorem in_facts {l : List V} {items : Array Value} {k : V} {kv : Value} {r : Bool} (hu : A.units + 10 < cLine) (hs : VRs s.heap σ l items.toList) (hk : VR s.heap σ k kv) (e : anyEq k l = some r) :
    (∀ y, y ∈ items → EqAt A.in1 s y kv (eOf l items.toList k y)) ∧ items.any (eOf l items.toList k) = r := by
  have ha := any_some e
  refine ⟨fun y hy => ?_, ?_⟩
  · obtain ⟨x, _, hx, q⟩ := eOf_at hs ha (v := y) (by simpa using hy)
    exact (eq_ok 6 A.in1 x k _ _ _ (by show A.units + 1 + 6 < cLine; omega) q hx hk).2
  · rw [← Array.any_toList]
    exact any_is hs e fun v hv x hx b hb => eOf_is hs ha hv hx hb
theorem isNone_ok {x : V} {a : Value} (ha : VR s.heap σ x a) : (a == Value.none) = isNone x := by
  cases x <;> simp only [VR] at ha
  · subst ha; rfl
  · subst ha; rfl
  · obtain ⟨_, rfl⟩ := ha; rfl
  · obtain ⟨_, rfl⟩ := ha; rfl
  · obtain ⟨_, _, _, _, rfl, _⟩ := ha; rfl
  · obtain ⟨_, _, rfl, _⟩ := ha; rfl
  · obtain ⟨_, _, rfl, _⟩ := ha; rfl
  · obtain ⟨_, _, rfl, _⟩ := ha; rfl
theorem plain_none {x : V} {a : Value} (ha : VR s.heap σ x a) : plainIs a .none = true := by
  cases x <;> simp only [VR] at ha
  · subst ha; rfl
  · subst ha; rfl
  · obtain ⟨_, rfl⟩ := ha; rfl
  · obtain ⟨_, rfl⟩ := ha; rfl
  · obtain ⟨_, _, _, _, rfl, _⟩ := ha; rfl
  · obtain ⟨_, _, rfl, _⟩ := ha; rfl
  · obtain ⟨_, _, rfl, _⟩ := ha; rfl
  · obtain ⟨_, _, rfl, _⟩ := ha; rfl
noncomputable def Ans (s : Shared) (r : Bool) (v : Value) (s' : Shared) : Prop := v = .bool r ∧ ∃ t, s' = { s with toks := t }
theorem ans (r : Bool) : Ans s r (.bool r) s := ⟨rfl, s.toks, rfl⟩
theorem ne_lists {f : V → V → Option Bool} {l l' : List V} {i1 i2 : Array Value} {a1 a2 : Addr} {q : Bool} (hu : A.units < cLine) (e : eqsN f l l' = some q) (ht1 : s.heap.IsList a1 i1) (ht2 : s.heap.IsList a2 i2) (hs1 : VRs s.heap σ l i1.toList) (hs2 : VRs s.heap σ l' i2.toList)
    (he : ∀ x y a b r, f x y = some r → VR s.heap σ x a → VR s.heap σ y b → EqAt A.in1 s a b r) : RcNeAt A s (.ref a1) (.ref a2) (!q) := by
  obtain ⟨ha, hb⟩ := eqs_all e
  have n1 : l.length = i1.size := by rw [hs1.length, Array.length_toList]
  have n2 : l'.length = i2.size := by rw [hs2.length, Array.length_toList]
  rw [n1, n2] at ha
  by_cases hz : i1.size = i2.size
  · have : q = (List.range i1.size).all (atE f l l') := by rw [← ha, hz]; simp
    rw [this]
    refine RcNeAt.lists ht1 ht2 hz hu fun j h1 h2 => ?_
    obtain ⟨x, hx, vx⟩ := hs1.getR (i := j) (v := i1[j]) (by simp [h1])
    obtain ⟨y, hy, vy⟩ := hs2.getR (i := j) (v := i2[j]) (by simp [h2])
    exact he _ _ _ _ _ (hb j x y hx hy) vx vy
  · have : q = false := by rw [← ha]; simp [hz]
    rw [this]
    exact RcNeAt.lists_lengths ht1 ht2 (by simpa using hz) hu
set_option tactic.hygienic true in
theorem in_ok {x : V} {a b : Value} (hu : A.units + 10 < cLine) (I : Inv T w base σ H s.heap) (ha : VR s.heap σ x a) : ∀ (y : V) (r : Bool), VR s.heap σ y b → inOp H x y = some r →
    (∀ (i : Nat) (l : List (V × V)), H[i]? = some (O.dict l) → y = .ref i → x.keyOk = true → Ok prog w A (contains b a) s fun v s' => v = (dlook x l).isSome ∧ ∃ t, s' = { s with toks := t }) →
    Ok prog w A (compareOp .In a b) s (Ans s r) ∧ Ok prog w A (compareOp .NotIn a b) s (Ans s (!r))
  | .tup l, r, hb, e, _ => by
    obtain ⟨c, items, rfl, ht, _, hs⟩ := hb
    obtain ⟨h1, h2⟩ := in_facts hu hs ha e
    exact ⟨in_tupleAt _ ht h1 (by rw [h2]; exact ans r), notIn_tupleAt _ ht h1 (by rw [h2]; exact ans (!r))⟩
  | .lst l, r, hb, e, _ => by
    obtain ⟨c, items, rfl, ht, _, hs⟩ := hb
    obtain ⟨h1, h2⟩ := in_facts hu hs ha e
    exact ⟨in_listAt _ ht h1 (by rw [h2]; exact ans r), notIn_listAt _ ht h1 (by rw [h2]; exact ans (!r))⟩
  | .ref i, r, hb, e, hd => by
    obtain ⟨_, c, rfl, hc⟩ := hb
    simp only [inOp] at e
    split at e
    · rename_i l hl
      obtain ⟨p, hp, c', items, rfl, ht0, hs⟩ := I.at hl
      have ht := ht0.isList
      cases hc _ hp
      obtain ⟨h1, h2⟩ := in_facts hu hs ha e
      exact ⟨in_listAt _ ht h1 (by rw [h2]; exact ans r), notIn_listAt _ ht h1 (by rw [h2]; exact ans (!r))⟩
    · rename_i l hl
      split at e
      · rename_i hk
        first | (replace e := s3 e; obtain ⟨h1', h2', h3'⟩ := e; subst h1'; cases h2'; (first | exact nosome h3' | exact nofalse h3' | cases h3')) | (replace e := s2 e; obtain ⟨rfl, rfl⟩ := e) | (first | exact nosome e | exact nofalse e | cases e)
        have := hd i l hl rfl hk
        constructor
        · show Ok prog w A (contains (.ref c) a >>= fun r => pure (Value.bool r)) s _
          exact this.bind fun v s' h => wpAny_pure ⟨by rw [h.1], h.2⟩
        · show Ok prog w A (contains (.ref c) a >>= fun r => pure (Value.bool (!r))) s _
          exact this.bind fun v s' h => wpAny_pure ⟨by rw [h.1], h.2⟩
      · (first | exact nosome e | exact nofalse e | cases e)
    · (first | exact nosome e | exact nofalse e | cases e)
  | .none, _, _, e, _ => by (first | exact nosome e | exact nofalse e | cases e)
  | .bool _, _, _, e, _ => by (first | exact nosome e | exact nofalse e | cases e)
  | .int _, _, _, e, _ => by (first | exact nosome e | exact nofalse e | cases e)
  | .str _, _, _, e, _ => by (first | exact nosome e | exact nofalse e | cases e)
  | .rng _ _, _, _, e, _ => by (first | exact nosome e | exact nofalse e | cases e)
set_option tactic.hygienic true in
theorem ne_ok {x y : V} {a b : Value} {r : Bool} (hu : A.units + 10 < cLine) (ha : VR s.heap σ x a) (hb : VR s.heap σ y b) (e : neOp x y = some r) : RcNeAt A s a b r := by
  unfold neOp at e
  split at e
  · obtain ⟨_, rfl⟩ := ha; obtain ⟨_, rfl⟩ := hb; (first | (replace e := s3 e; obtain ⟨h1', h2', h3'⟩ := e; subst h1'; cases h2'; (first | exact nosome h3' | exact nofalse h3' | cases h3')) | (replace e := s2 e; obtain ⟨rfl, rfl⟩ := e) | (first | exact nosome e | exact nofalse e | cases e)); rw [intEq_beq]; exact RcNeAt.int_int _ _ _ _
  · obtain ⟨_, rfl⟩ := ha; obtain ⟨_, rfl⟩ := hb; (first | (replace e := s3 e; obtain ⟨h1', h2', h3'⟩ := e; subst h1'; cases h2'; (first | exact nosome h3' | exact nofalse h3' | cases h3')) | (replace e := s2 e; obtain ⟨rfl, rfl⟩ := e) | (first | exact nosome e | exact nofalse e | cases e)); rw [strEq_beq]; exact RcNeAt.str_str _ _ _ _
  · cases ha; cases hb; (first | (replace e := s3 e; obtain ⟨h1', h2', h3'⟩ := e; subst h1'; cases h2'; (first | exact nosome h3' | exact nofalse h3' | cases h3')) | (replace e := s2 e; obtain ⟨rfl, rfl⟩ := e) | (first | exact nosome e | exact nofalse e | cases e)); exact RcNeAt.bool_bool _ _
  · rename_i l l'
    obtain ⟨a1, i1, rfl, ht1, _, hs1⟩ := ha
    obtain ⟨a2, i2, rfl, ht2, _, hs2⟩ := hb
    cases q : eqsN (eqN 5) l l' with
    | none => rw [q] at e; (first | exact nosome e | exact nofalse e | cases e)
    | some z =>
      rw [q] at e; (first | exact nosome e | exact nofalse e | cases e)
      exact ne_lists (by omega) q ht1 ht2 hs1 hs2 (fun x y a b r h1 h2 h3 => (eq_ok 5 A.in1 x y a b r (by show A.units + 1 + 5 < cLine; omega) h1 h2 h3).2)
  · (first | exact nosome e | exact nofalse e | cases e)
theorem intCmp_some {f : Int → Int → Bool} {x y : V} {r : Bool} (h : intCmp f x y = some r) : ∃ a b, x = .int a ∧ y = .int b ∧ f a b = r := by
  unfold intCmp at h
  split at h
  · split at h
    · exact ⟨_, _, rfl, rfl, Option.some.inj h⟩
    · (first | exact nosome h | exact nofalse h | cases h)
  · (first | exact nosome h | exact nofalse h | cases h)
theorem isOp_some {x y : V} {r : Bool} (h : isOp x y = some r) : y = .none ∧ isNone x = r := by
  unfold isOp at h
  split at h
  · exact ⟨rfl, Option.some.inj h⟩
  · (first | exact nosome h | exact nofalse h | cases h)
theorem cmp_ok {op : CmpOp} {x y : V} {a b : Value} {r : Bool} (hu : A.units + 10 < cLine) (I : Inv T w base σ H s.heap) (ha : VR s.heap σ x a) (hb : VR s.heap σ y b) (e : cmpop H op x y = some r)
    (hd : ∀ (i : Nat) (l : List (V × V)), H[i]? = some (O.dict l) → y = .ref i → x.keyOk = true → Ok prog w A (contains b a) s fun v s' => v = (dlook x l).isSome ∧ ∃ t, s' = { s with toks := t }) :
    Ok prog w A (compareOp op a b) s (Ans s r) := by
  unfold cmpop at e
  split at e
  · exact (eq_ok 6 A x y a b r (by omega) e ha hb).1 _ _ _ _ (ans r)
  · exact ne_ok hu ha hb e _ _ _ _ (ans r)
  · replace e := intCmp_some e; obtain ⟨_, _, rfl, rfl, rfl⟩ := e; obtain ⟨_, rfl⟩ := ha; obtain ⟨_, rfl⟩ := hb; exact P.lt_int (ans _)
  · replace e := intCmp_some e; obtain ⟨_, _, rfl, rfl, rfl⟩ := e; obtain ⟨_, rfl⟩ := ha; obtain ⟨_, rfl⟩ := hb; exact P.le_int (ans _)
  · replace e := intCmp_some e; obtain ⟨_, _, rfl, rfl, rfl⟩ := e; obtain ⟨_, rfl⟩ := ha; obtain ⟨_, rfl⟩ := hb; exact P.gt_int (ans _)
  · replace e := intCmp_some e; obtain ⟨_, _, rfl, rfl, rfl⟩ := e; obtain ⟨_, rfl⟩ := ha; obtain ⟨_, rfl⟩ := hb; exact P.ge_int (ans _)
  · replace e := isOp_some e; obtain ⟨rfl, rfl⟩ := e; cases hb; exact wpAny_is_plain (plain_none ha) (by rw [isNone_ok ha]; exact ans _)
  · obtain ⟨q, e', rfl⟩ := Option.map_eq_some_iff.mp e
    replace e' := isOp_some e'; obtain ⟨rfl, rfl⟩ := e'; (first | exact nosome hb | exact nofalse hb | cases hb)
    show Ok prog w A (isSame a .none >>= fun r => pure (Value.bool (!r))) s _
    exact wpAny_bind (wpAny_isSame_plain (plain_none ha) (wpAny_pure (by rw [isNone_ok ha]; exact ans _)))
  · exact (in_ok hu I ha y r hb e hd).1
  · cases q : inOp H x y with
    | none => rw [q] at e; (first | exact nosome e | exact nofalse e | cases e)
    | some z => rw [q] at e; (first | (replace e := s3 e; obtain ⟨h1', h2', h3'⟩ := e; subst h1'; cases h2'; (first | exact nosome h3' | exact nofalse h3' | cases h3')) | (replace e := s2 e; obtain ⟨rfl, rfl⟩ := e) | (first | exact nosome e | exact nofalse e | cases e)); exact (in_ok hu I ha y z hb q hd).2
end
end Mine
set_option linter.unusedSimpArgs false
namespace Mine
open PySem PySem.W PyProof.Rows PySem.MeetsSeq PySem.SeqAt
theorem eqs_key {n m : Nat} (ih : ∀ x y, keyOkN n x = true → keyOkN n y = true → ∃ b, eqN m x y = some b ∧ (b = true ↔ x = y)) : ∀ (l r : List V), l.all (keyOkN n) = true → r.all (keyOkN n) = true → ∃ b, eqsN (eqN m) l r = some b ∧ (b = true ↔ l = r)
  | [], [], _, _ => ⟨true, rfl, by simp⟩
  | [], _ :: _, _, _ => ⟨false, rfl, by simp⟩
  | _ :: _, [], _, _ => ⟨false, rfl, by simp⟩
  | x :: l, y :: r, h1, h2 => by
    rw [List.all_cons, Bool.and_eq_true] at h1 h2
    obtain ⟨a, ha, ha'⟩ := ih x y h1.1 h2.1
    obtain ⟨b, hb, hb'⟩ := eqs_key ih l r h1.2 h2.2
    exact ⟨a && b, by simp [eqsN, ha, hb], by rw [Bool.and_eq_true, ha', hb', List.cons.injEq]⟩
set_option tactic.hygienic true in
theorem eqN_key : ∀ (n m : Nat) (x y : V), n < m → keyOkN n x = true → keyOkN n y = true → ∃ b, eqN m x y = some b ∧ (b = true ↔ x = y)
  | 0, _, _, _, _, h, _ => by (first | exact nosome h | exact nofalse h | cases h)
  | n + 1, 0, _, _, h, _, _ => by omega
  | n + 1, m + 1, x, y, hm, h1, h2 => by
    cases x <;> cases y <;> simp only [keyOkN, Bool.false_eq_true] at h1 h2
    case int.int a b => exact ⟨intEq a b, rfl, by rw [intEq_iff, V.int.injEq]⟩
    case str.str a b => exact ⟨strEq a b, rfl, by rw [strEq_iff, V.str.injEq]⟩
    case tup.tup l r =>
      obtain ⟨b, hb, hb'⟩ := eqs_key (fun x y => eqN_key n m x y (by omega)) l r h1 h2
      exact ⟨b, hb, by rw [hb', V.tup.injEq]⟩
    all_goals exact ⟨false, rfl, by simp⟩
theorem allB_key {n m : Nat} (ih : ∀ x y, keyOkN n x = true → keyOkN n y = true → (keqN m x y = true ↔ x = y)) : ∀ (l r : List V), l.all (keyOkN n) = true → r.all (keyOkN n) = true → (allB (keqN m) l r = true ↔ l = r)
  | [], [], _, _ => by simp [allB]
  | [], _ :: _, _, _ => by simp [allB]
  | _ :: _, [], _, _ => by simp [allB]
  | x :: l, y :: r, h1, h2 => by
    rw [List.all_cons, Bool.and_eq_true] at h1 h2
    have ha := ih x y h1.1 h2.1
    have hb := allB_key ih l r h1.2 h2.2
    unfold allB
    rw [List.cons.injEq, ← ha, ← hb]
    cases keqN m x y <;> simp
set_option tactic.hygienic true in
theorem keqN_key : ∀ (n m : Nat) (x y : V), n ≤ m → keyOkN n x = true → keyOkN n y = true → (keqN m x y = true ↔ x = y)
  | 0, _, _, _, _, h, _ => by (first | exact nosome h | exact nofalse h | cases h)
  | n + 1, 0, _, _, h, _, _ => by omega
  | n + 1, m + 1, x, y, hm, h1, h2 => by
    cases x <;> cases y <;> simp only [keyOkN, Bool.false_eq_true] at h1 h2
    case int.int a b => show intEq a b = true ↔ _; rw [intEq_iff, V.int.injEq]
    case str.str a b => show strEq a b = true ↔ _; rw [strEq_iff, V.str.injEq]
    case tup.tup l r =>
      show allB (keqN m) l r = true ↔ _
      rw [allB_key (fun x y => keqN_key n m x y (by omega)) l r h1 h2, V.tup.injEq]
    all_goals simp [keqN]
theorem keq_iff {x y : V} (h1 : x.keyOk = true) (h2 : y.keyOk = true) : V.keq x y = true ↔ x = y := keqN_key 4 4 x y (Nat.le_refl _) h1 h2
theorem keq_some {x y : V} (h1 : x.keyOk = true) (h2 : y.keyOk = true) : V.eq? x y = some (V.keq x y) := by
  obtain ⟨b, hb, hb'⟩ := eqN_key 4 6 x y (by omega) h1 h2
  unfold V.eq?
  rw [hb]
  refine congrArg some ?_
  rw [Bool.eq_iff_iff, hb', keq_iff h1 h2]
theorem keq_ne {x y : V} (h1 : x.keyOk = true) (h2 : y.keyOk = true) : V.keq x y = false ↔ x ≠ y := by
  rw [← Bool.not_eq_true, keq_iff h1 h2]
theorem keq_self {x : V} (h1 : x.keyOk = true) : V.keq x x = true := (keq_iff h1 h1).mpr rfl
section
variable {h : Heap} {σ : Sg}
theorem key_uniqs {n : Nat} (ih : ∀ x y v, keyOkN n x = true → keyOkN n y = true → VR h σ x v → VR h σ y v → x = y) : ∀ (l r : List V) (vs : List Value), l.all (keyOkN n) = true → r.all (keyOkN n) = true → VRs h σ l vs → VRs h σ r vs → l = r
  | [], [], _, _, _, _, _ => rfl
  | [], y :: r, vs, _, _, H1, H2 => by
    rw [show vs = [] from H1] at H2
    obtain ⟨_, _, z, _⟩ := H2; (first | exact nosome z | exact nofalse z | cases z)
  | x :: l, [], vs, _, _, H1, H2 => by
    rw [show vs = [] from H2] at H1
    obtain ⟨_, _, z, _⟩ := H1; (first | exact nosome z | exact nofalse z | cases z)
  | x :: l, y :: r, vs, h1, h2, H1, H2 => by
    rw [List.all_cons, Bool.and_eq_true] at h1 h2
    obtain ⟨v, vs', rfl, a, c⟩ := H1
    obtain ⟨v', vs'', q, a', c'⟩ := H2
    (first | exact nosome q | exact nofalse q | cases q)
    rw [ih x y v h1.1 h2.1 a a', key_uniqs ih l r vs' h1.2 h2.2 c c']
set_option tactic.hygienic true in
theorem key_uniq : ∀ (n : Nat) (x y : V) (v : Value), keyOkN n x = true → keyOkN n y = true → VR h σ x v → VR h σ y v → x = y
  | 0, _, _, _, h, _, _, _ => by (first | exact nosome h | exact nofalse h | cases h)
  | n + 1, x, y, v, h1, h2, H1, H2 => by
    cases x <;> cases y <;> simp only [keyOkN, Bool.false_eq_true] at h1 h2 <;> simp only [VR] at H1 H2
    case int.int a b => obtain ⟨_, rfl⟩ := H1; obtain ⟨_, q⟩ := H2; cases q; rfl
    case str.str a b => obtain ⟨_, rfl⟩ := H1; obtain ⟨_, q⟩ := H2; cases q; rfl
    case int.str a b => obtain ⟨_, rfl⟩ := H1; obtain ⟨_, q⟩ := H2; (first | exact nosome q | exact nofalse q | cases q)
    case str.int a b => obtain ⟨_, rfl⟩ := H1; obtain ⟨_, q⟩ := H2; (first | exact nosome q | exact nofalse q | cases q)
    case int.tup a b => obtain ⟨_, rfl⟩ := H1; obtain ⟨_, _, q, _⟩ := H2; (first | exact nosome q | exact nofalse q | cases q)
    case str.tup a b => obtain ⟨_, rfl⟩ := H1; obtain ⟨_, _, q, _⟩ := H2; (first | exact nosome q | exact nofalse q | cases q)
    case tup.int a b => obtain ⟨_, rfl⟩ := H2; obtain ⟨_, _, q, _⟩ := H1; (first | exact nosome q | exact nofalse q | cases q)
    case tup.str a b => obtain ⟨_, rfl⟩ := H2; obtain ⟨_, _, q, _⟩ := H1; (first | exact nosome q | exact nofalse q | cases q)
    case tup.tup l r =>
      obtain ⟨a, i, rfl, ht, _, hs⟩ := H1
      obtain ⟨a', i', q, ht', _, hs'⟩ := H2
      (first | exact nosome q | exact nofalse q | cases q)
      cases tuple_items ht ht'
      rw [key_uniqs (key_uniq n) l r _ h1 h2 hs hs']
end
section
variable {prog : Program} {w : World} {A : Around} {s : Shared} {σ : Sg}
theorem key_eqBool {x y : V} {a b : Value} (hu : A.units + 10 < cLine) (hx : x.keyOk = true) (hy : y.keyOk = true) (ha : VR s.heap σ x a) (hb : VR s.heap σ y b) : Ok prog w A (eqBool a b) s fun r s' => r = V.keq x y ∧ s' = s :=
  (eq_ok 6 A x y a b _ (by omega) (keq_some hx hy) ha hb).2 _ _ _ _ ⟨rfl, rfl⟩
set_option tactic.hygienic true in
theorem quiet_ok (n : Nat) : ∀ (d : Nat) (x : V) (v : Value), n ≤ d → keyOkN n x = true → VR s.heap σ x v → Ok prog w A (eqIsQuiet d v) s fun r s' => r = true ∧ s' = s := by
  induction n with
  | zero => intro _ _ _ _ h _; (first | exact nosome h | exact nofalse h | cases h)
  | succ n ih =>
    intro d x v hd hk H
    cases x <;> simp only [keyOkN, Bool.false_eq_true] at hk
    case int i => obtain ⟨_, rfl⟩ := H; rw [eqIsQuiet_byValue _ rfl]; exact wpAny_pure ⟨rfl, rfl⟩
    case str i => obtain ⟨_, rfl⟩ := H; rw [eqIsQuiet_byValue _ rfl]; exact wpAny_pure ⟨rfl, rfl⟩
    case tup l =>
      obtain ⟨a, items, rfl, ht, _, hs⟩ := H
      have hT : s.TypeIs (.ref a) "tuple" := by obtain ⟨o, ho, hc, _⟩ := ht; exact ⟨o, ho, hc⟩
      obtain ⟨o, ho, hc, k, hdt⟩ := id ht
      obtain ⟨d, rfl⟩ : ∃ e, d = e + 1 := ⟨d - 1, by omega⟩
      unfold eqIsQuiet
      refine wpAny_bind (wpAny_specialOf hT F.slot_tuple_eq.lookup ?_)
      show wpAny _ _ (isInstance (.ref a) (.type "tuple") >>= _) _ _ s
      refine wpAny_bind (wpAny_isInstance hT isSubtype_tuple_tuple ?_)
      simp only [Bool.not_true, Bool.false_eq_true, if_false]
      refine wpAny_bind (wpAny_seqItems ho hdt ?_)
      refine wpAny_bind ?_
      show wpAny _ _ (forIn items _ _) _ _ s
      rw [← Array.forIn_toList]
      refine wpAny_forIn_list _ (fun rest r s' => r.1 = none ∧ s' = s ∧ ∃ l', VRs s.heap σ l' rest ∧ l'.all (keyOkN n) = true) _ ?_ ?_ _ _ ⟨rfl, rfl, l, hs, hk⟩
      · rintro v rest r s' ⟨hr, rfl, l', hv, hk'⟩
        cases l' with
        | nil => (first | exact nosome hv | exact nofalse hv | cases hv)
        | cons y l' =>
          obtain ⟨v', r', q, h1, h2⟩ := hv
          (first | exact nosome q | exact nofalse q | cases q)
          rw [List.all_cons, Bool.and_eq_true] at hk'
          refine (ih d y v (by omega) hk'.1 h1).bind ?_
          rintro b s'' ⟨rfl, rfl⟩
          simp only [Bool.not_true, Bool.false_eq_true, if_false]
          exact wpAny_pure ⟨rfl, rfl, l', h2, hk'.2⟩
      · rintro ⟨r1, r2⟩ s' ⟨hr, rfl, _⟩
        simp only at hr
        subst hr
        exact wpAny_pure ⟨rfl, rfl⟩
theorem tells_ok {key : Value} {stored : List Value} (hk : ∃ x, keyOkN 4 x = true ∧ VR s.heap σ x key) (hs : ∀ v ∈ stored, ∃ x, keyOkN 4 x = true ∧ VR s.heap σ x v) : Ok prog w A (tableMayTell key stored) s fun r s' => r = false ∧ s' = s := by
  unfold tableMayTell
  by_cases he : stored.isEmpty = true
  · rw [if_pos he]; exact wpAny_pure ⟨rfl, rfl⟩
  rw [if_neg he]
  obtain ⟨x, h1, h2⟩ := hk
  refine (quiet_ok 4 8 x key (by omega) h1 h2).bind ?_
  rintro b s' ⟨rfl, rfl⟩
  simp only [Bool.not_true, Bool.false_eq_true, if_false]
  refine wpAny_bind ?_
  refine wpAny_forIn_list _ (fun rest r s'' => r.1 = none ∧ s'' = s' ∧ ∀ v ∈ rest, ∃ x, keyOkN 4 x = true ∧ VR s'.heap σ x v) _ ?_ ?_ _ _ ⟨rfl, rfl, hs⟩
  · rintro v rest r s'' ⟨hr, rfl, hv⟩
    obtain ⟨y, h1, h2⟩ := hv v (.head _)
    refine (quiet_ok 4 8 y v (by omega) h1 h2).bind ?_
    rintro b s3 ⟨rfl, rfl⟩
    simp only [Bool.not_true, Bool.false_eq_true, if_false]
    exact wpAny_pure ⟨rfl, rfl, fun u hu => hv u (.tail _ hu)⟩
  · rintro ⟨r1, r2⟩ s'' ⟨hr, rfl, _⟩
    simp only at hr
    subst hr
    exact wpAny_pure ⟨rfl, rfl⟩
set_option tactic.hygienic true in
theorem hash_ok (n : Nat) : ∀ (A : Around) (s : Shared) (x : V) (v : Value), A.units + n < cLine → keyOkN n x = true → VR s.heap σ x v → Ok prog w A (pyHash v) s fun r s' => r = vhashN w n x ∧ ∃ t, s' = { s with toks := t } := by
  induction n with
  | zero => intro _ _ _ _ _ h _; (first | exact nosome h | exact nofalse h | cases h)
  | succ n ih =>
    intro A s x v hu hk H
    cases x <;> simp only [keyOkN, Bool.false_eq_true] at hk
    case int i => obtain ⟨t, rfl⟩ := H; exact wpAny_pyHash_int ⟨rfl, _, rfl⟩
    case str i => obtain ⟨t, rfl⟩ := H; exact wpAny_pyHash_str ⟨rfl, _, rfl⟩
    case tup l =>
      obtain ⟨a, items, rfl, ht, _, hs⟩ := H
      have hT : s.TypeIs (.ref a) "tuple" := by obtain ⟨o, ho, hc, _⟩ := ht; exact ⟨o, ho, hc⟩
      obtain ⟨o, ho, hc, k, hdt⟩ := id ht
      have hu' : A.units < cLine := by omega
      unfold pyHash
      first | unfold pyHashByItsType | skip
      first | refine wpAny_bind (wpAny_cRoomFor_or (.inr hu') ?_) | skip
      refine wpAny_bind (wpAny_specialOf hT F.slot_tuple_hash.lookup ?_)
      show wpAny _ _ (if (some (Value.builtin "tuple.__hash__") == some Value.none) = true then _ else _) _ _ s
      rw [if_neg (by rw [beq_builtin_none]; exact Bool.false_ne_true)]
      refine wpAny_bind (wpAny_specialOf hT F.slot_tuple_hash.lookup ?_)
      show wpAny _ _ (callSpecialIfBoundUnlessNone? (.ref a) "__hash__" _ >>= _) _ _ s
      refine wpAny_bind (wpAny_callSpecialIfBoundUnlessNone?_slot hT F.slot_tuple_hash (wpAny_call_entry F.slot_tuple_hash hT F.entry_tuple_hash ?_ (F.args_tuple_hash_1 _)))
      show wpAny _ _ (Builtin.Tuple.tupleItemsOf (.ref a) >>= _) _ _ s
      refine wpAny_bind (wpAny_tupleItemsOf ho hdt ?_)
      refine wpAny_bind ?_
      rw [← Array.forIn_toList]
      refine wpAny_forIn_list _
        (fun rest (b : Array Int) s' => ∃ done left t, l = done ++ left ∧ VRs s.heap σ left rest ∧ left.all (keyOkN n) = true ∧ b.toList = done.map (vhashN w n) ∧ s' = { s with toks := t })
        _ ?_ ?_ _ _ ⟨[], l, s.toks, rfl, hs, hk, rfl, rfl⟩
      · rintro y rest b s' ⟨done, left, t, rfl, hl, hkl, hb, rfl⟩
        cases left with
        | nil => (first | exact nosome hl | exact nofalse hl | cases hl)
        | cons z left =>
          obtain ⟨v', r', q, h1, h2⟩ := hl
          (first | exact nosome q | exact nofalse q | cases q)
          rw [List.all_cons, Bool.and_eq_true] at hkl
          refine wpAny_bind ((ih A.in1 { s with toks := t } z y (by show A.units + 1 + n < cLine; omega) hkl.1 h1).to ?_)
          rintro r s'' ⟨rfl, t', rfl⟩
          first
            | exact wpAny_pure ⟨done ++ [z], left, t', by simp, h2, hkl.2, by simp [hb], rfl⟩
            | exact wpAny_bind (wpAny_pure (wpAny_pure ⟨done ++ [z], left, t', by simp, h2, hkl.2, by simp [hb], rfl⟩))
      · rintro b s' ⟨done, left, t, rfl, hl, hkl, hb, rfl⟩
        cases left with
        | cons z left => obtain ⟨_, _, q, _⟩ := hl; (first | exact nosome q | exact nofalse q | cases q)
        | nil =>
        show wpAny _ _ (retInt (Builtin.Tuple.tupleHashOf b.toList)) _ _ _
        rw [hb]
        refine wpAny_ret_mkInt ?_
        show wpAny _ _ (if (decide (-(2 : Int) ^ 63 ≤ Builtin.Tuple.tupleHashOf (done.map (vhashN w n))) && decide (Builtin.Tuple.tupleHashOf (done.map (vhashN w n)) < 2 ^ 63)) = true then _ else _) _ _ _
        have key : vhashN w (n + 1) (.tup (done ++ [])) = reduceHash (Builtin.Tuple.tupleHashOf (done.map (vhashN w n))) := by rw [List.append_nil]; rfl
        unfold reduceHash at key
        by_cases hr : (decide (-(2 : Int) ^ 63 ≤ Builtin.Tuple.tupleHashOf (done.map (vhashN w n))) && decide (Builtin.Tuple.tupleHashOf (done.map (vhashN w n)) < 2 ^ 63)) = true
        · rw [if_pos hr]
          rw [if_pos hr] at key
          exact wpAny_pure ⟨key.symm, _, rfl⟩
        · rw [if_neg hr]
          rw [if_neg hr] at key
          exact wpAny_bind (wpAny_rule (wpAny_pure ⟨key.symm, _, rfl⟩))
end
end Mine
set_option linter.unusedSimpArgs false
namespace Mine
open PySem PySem.W PyProof.Rows PySem.MeetsSeq PySem.SeqAt
noncomputable def dfind (k : V) : List (V × V) → Option Nat
  | [] => none
  | p :: l => match V.keq p.1 k with
    | true => some 0
    | false => (dfind k l).map (· + 1)
theorem dlook_eq (k : V) : ∀ l : List (V × V), dlook k l = (dfind k l).bind fun i => (l[i]?).map (·.2)
  | [] => rfl
  | p :: l => by
    unfold dlook dfind
    cases V.keq p.1 k with
    | true => rfl
    | false =>
      show dlook k l = _
      rw [dlook_eq k l]
      cases dfind k l <;> simp
theorem dfind_none {k : V} (hk : k.keyOk = true) : ∀ {l : List (V × V)}, (∀ p ∈ l, p.1.keyOk = true) → (∀ p ∈ l, p.1 ≠ k) → dfind k l = none
  | [], _, _ => rfl
  | p :: l, h1, h2 => by
    unfold dfind
    rw [(keq_ne (h1 p (.head _)) hk).mpr (h2 p (.head _))]
    show (dfind k l).map _ = none
    rw [dfind_none hk (fun q hq => h1 q (.tail _ hq)) fun q hq => h2 q (.tail _ hq)]; rfl
theorem dfind_some {k : V} (hk : k.keyOk = true) : ∀ {l : List (V × V)}, (∀ p ∈ l, p.1.keyOk = true) → KNod l → ∀ {i : Nat} {p : V × V}, l[i]? = some p → p.1 = k → dfind k l = some i
  | [], _, _, i, p, e, _ => by simp at e
  | q :: l, h1, hn, i, p, e, hp => by
    unfold dfind
    cases i with
    | zero =>
      simp at e; subst e; subst hp
      rw [keq_self (h1 q (.head _))]
    | succ i =>
      simp at e
      have hm := List.mem_of_getElem? e
      have : V.keq q.1 k = false := (keq_ne (h1 q (.head _)) hk).mpr fun z => hn.1 p hm (hp.trans z.symm)
      rw [this]
      show (dfind k l).map _ = _
      rw [dfind_some hk (fun q hq => h1 q (.tail _ hq)) hn.2 e hp]; rfl
theorem dfind_at {k : V} (hk : k.keyOk = true) : ∀ {l : List (V × V)}, (∀ p ∈ l, p.1.keyOk = true) → ∀ {i : Nat}, dfind k l = some i → ∃ p, l[i]? = some p ∧ p.1 = k
  | [], _, i, e => by (first | exact nosome e | exact nofalse e | cases e)
  | q :: l, h1, i, e => by
    unfold dfind at e
    cases z : V.keq q.1 k with
    | true => rw [z] at e; (first | (replace e := s3 e; obtain ⟨h1', h2', h3'⟩ := e; subst h1'; cases h2'; (first | exact nosome h3' | exact nofalse h3' | cases h3')) | (replace e := s2 e; obtain ⟨rfl, rfl⟩ := e) | (first | exact nosome e | exact nofalse e | cases e)); exact ⟨q, rfl, (keq_iff (h1 q (.head _)) hk).mp z⟩
    | false =>
      rw [z] at e
      cases y : dfind k l with
      | none => simp [y] at e
      | some j =>
        simp [y] at e; subst e
        obtain ⟨p, h2, h3⟩ := dfind_at hk (fun q hq => h1 q (.tail _ hq)) y
        exact ⟨p, by simpa using h2, h3⟩
section
variable {w : World} {h : Heap} {σ : Sg}
theorem ER.keys : ∀ {l : List (V × V)} {es : List DictEntry}, ER w h σ l es → ∀ p ∈ l, p.1.keyOk = true
  | [], _, _, _, hp => by (first | exact nosome hp | exact nofalse hp | cases hp)
  | q :: l, _, H, p, hp => by
    obtain ⟨e, r, rfl, hk, _, _, _, hl⟩ := H
    rcases List.mem_cons.mp hp with rfl | hp
    · exact hk
    · exact hl.keys p hp
theorem ER.length : ∀ {l : List (V × V)} {es : List DictEntry}, ER w h σ l es → l.length = es.length
  | [], _, H => by rw [show _ = [] from H]; rfl
  | q :: l, _, H => by
    obtain ⟨e, r, rfl, hk, _, _, _, hl⟩ := H
    simp [hl.length]
theorem ER.at : ∀ {l : List (V × V)} {es : List DictEntry}, ER w h σ l es → ∀ {i : Nat} {p : V × V}, l[i]? = some p → ∃ e, es[i]? = some e ∧ p.1.keyOk = true ∧ e.hash = vhash w p.1 ∧ VR h σ p.1 e.key ∧ VR h σ p.2 e.val
  | [], _, _, i, p, q => by simp at q
  | x :: l, _, H, i, p, q => by
    obtain ⟨e, r, rfl, h1, h2, h3, h4, hl⟩ := H
    cases i with
    | zero => simp at q; subst q; exact ⟨e, rfl, h1, h2, h3, h4⟩
    | succ i => simp at q; simpa using hl.at q
theorem ER.atR : ∀ {l : List (V × V)} {es : List DictEntry}, ER w h σ l es → ∀ {i : Nat} {e : DictEntry}, es[i]? = some e → ∃ p, l[i]? = some p ∧ p.1.keyOk = true ∧ e.hash = vhash w p.1 ∧ VR h σ p.1 e.key ∧ VR h σ p.2 e.val
  | [], _, H, i, e, q => by rw [show _ = [] from H] at q; simp at q
  | x :: l, _, H, i, e, q => by
    obtain ⟨e', r, rfl, h1, h2, h3, h4, hl⟩ := H
    cases i with
    | zero => simp at q; subst q; exact ⟨x, rfl, h1, h2, h3, h4⟩
    | succ i => simp at q; simpa using hl.atR q
theorem ER.findIdx (κ : Str) : ∀ {l : List (V × V)} {es : List DictEntry}, ER w h σ l es → es.findIdx? (fun e => e.key.isStr κ) = dfind (.str κ) l
  | [], _, H => by rw [show _ = [] from H]; rfl
  | p :: l, _, H => by
    obtain ⟨e, r, rfl, hk, _, hv, _, hl⟩ := H
    have : e.key.isStr κ = V.keq p.1 (.str κ) := by
      obtain ⟨k, v⟩ := p
      show e.key.isStr κ = V.keq k (.str κ)
      have hv : VR h σ k e.key := hv
      have hk : keyOkN 4 k = true := hk
      clear hl
      cases k with
      | int i => obtain ⟨_, q⟩ := hv; rw [q]; rfl
      | str x => obtain ⟨_, q⟩ := hv; rw [q]; show (x == κ) = strEq x κ; rw [strEq_beq]
      | tup x => obtain ⟨_, _, q, _⟩ := hv; rw [q]; rfl
      | _ => (first | exact nosome hk | exact nofalse hk | cases hk)
    rw [List.findIdx?_cons, this]
    unfold dfind
    cases V.keq p.1 (.str κ) with
    | true => rfl
    | false => simp [hl.findIdx κ]
end
section
variable {prog : Program} {w : World} {A : Around} {s : Shared} {σ : Sg}
noncomputable def walkC (d : Addr) (key : Value) (h : Int) (es : Array DictEntry) (places : List Nat) (stored : List Value) : Sem (Option Nat) := do
  let mut hit : Option Nat := none
  for i in places do
    if let some e := es[i]? then
      if e.hash == h then
        let before ← dictEpoch d (keyPart key)
        let same ← eqBool e.key key
        if (← dictEpoch d (keyPart key)) != before then unsupported "dict.changed-during-lookup"
        if same then
          if hit.isSome then unsupported "dict.find:order-among-keys-of-one-hash"
          rule "dict.find.hit"
          if stored.length < 2 then return some i
          hit := some i
        else
          rule "dict.find.same-hash-other-key"
          if false && !(0 ≤ h && h < 32) then unsupported "dict.find:asked-again-or-not-hangs-on-the-table"
  return hit
theorem walkC_ok {d : Addr} {es : List DictEntry} {n : Nat} {l : List (V × V)} {k : V} {kv : Value} {places : List Nat} {stored : List Value} (hu : A.units + 10 < cLine) (hd : IsDictAt s.heap d es n) (hk : k.keyOk = true) (hkv : VR s.heap σ k kv)
    (hplaces : ∀ i ∈ places, ∃ p e, l[i]? = some p ∧ es[i]? = some e ∧ p.1.keyOk = true ∧ e.hash = vhash w k ∧ VR s.heap σ p.1 e.key)
    (hnone : (∀ i ∈ places, ∀ p, l[i]? = some p → p.1 ≠ k) → dfind k l = none) (hsome : ∀ i ∈ places, ∀ p, l[i]? = some p → p.1 = k → dfind k l = some i) (hnd : places.Nodup) :
    Ok prog w A (walkC d kv (vhash w k) es.toArray places stored) s fun r s' => r = dfind k l ∧ s' = s := by
  have hdd : (dictOf es n).data = .dict es.toArray n := rfl
  have hat : ∀ i : Nat, es.toArray[i]? = es[i]? := fun i => by simp
  unfold walkC
  refine wpAny_bind ?_
  refine wpAny_forIn_list _ (fun rest b s'' => b.1 = none ∧ s'' = s ∧ rest.Nodup ∧ (∀ i ∈ rest, i ∈ places) ∧ ((b.2 = none ∧ ∀ i ∈ places, i ∉ rest → ∀ p, l[i]? = some p → p.1 ≠ k) ∨ ∃ j p, b.2 = some j ∧ j ∉ rest ∧ j ∈ places ∧ l[j]? = some p ∧ p.1 = k)) _ ?_ ?_ _ _ ⟨rfl, rfl, hnd, fun _ h => h, .inl ⟨rfl, fun i h n => absurd h n⟩⟩
  · rintro i rest ⟨b1, hit⟩ s'' ⟨hb, rfl, hndr, hin, hH⟩
    simp only at hb hH
    subst hb
    obtain ⟨p, e, h1, h2, h3, h4, h5⟩ := hplaces i (hin i (.head _))
    have hinr : i ∉ rest := (List.nodup_cons.mp hndr).1
    rw [hat, h2]
    dsimp only
    rw [if_pos (by rw [h4]; simp)]
    refine wpAny_bind (wpAny_dictEpoch hd hdd (wpAny_bind ((key_eqBool hu h3 hk h5 hkv).to ?_)))
    rintro r s3 ⟨rfl, rfl⟩
    refine wpAny_bind (wpAny_dictEpoch hd hdd ?_)
    show wpAny _ _ (if (n != n) = true then _ else _) _ _ _
    rw [if_neg (by simp)]
    cases q : V.keq p.1 k with
    | true =>
      simp only [if_true]
      have hpk := (keq_iff h3 hk).mp q
      rcases hH with ⟨rfl, hno⟩ | ⟨j, p', rfl, hj1, hj2, hj3, hj4⟩
      · simp only [Option.isSome_none, Bool.false_eq_true, if_false]
        refine wpAny_bind (wpAny_rule ?_)
        split
        · exact wpAny_pure (wpAny_pure ⟨(hsome i (hin i (.head _)) p h1 hpk).symm, rfl⟩)
        · exact wpAny_pure ⟨rfl, rfl, (List.nodup_cons.mp hndr).2, fun j hj => hin j (.tail _ hj), .inr ⟨i, p, rfl, hinr, hin i (.head _), h1, hpk⟩⟩
      · exfalso
        have z1 := hsome i (hin i (.head _)) p h1 hpk
        have z2 := hsome j hj2 p' hj3 hj4
        rw [z1] at z2
        (first | exact nosome z2 | exact nofalse z2 | cases z2)
        exact hj1 (.head _)
    | false =>
      simp only [Bool.false_eq_true, if_false, Bool.false_and]
      refine wpAny_bind (wpAny_rule (wpAny_pure ⟨rfl, rfl, (List.nodup_cons.mp hndr).2, fun j hj => hin j (.tail _ hj), ?_⟩))
      rcases hH with ⟨rfl, hno⟩ | ⟨j, p', rfl, hj1, hj2, hj3, hj4⟩
      · refine .inl ⟨rfl, fun j hj hjn p' hp' => ?_⟩
        by_cases hij : j = i
        · subst hij; rw [h1] at hp'; cases hp'; exact (keq_ne h3 hk).mp q
        · exact hno j hj (fun hm => by rcases List.mem_cons.mp hm with z | z; exact hij z; exact hjn z) p' hp'
      · exact .inr ⟨j, p', rfl, fun hm => hj1 (.tail _ hm), hj2, hj3, hj4⟩
  · rintro ⟨b1, hit⟩ s'' ⟨hb, rfl, _, hin, hH⟩
    simp only at hb hH
    subst hb
    rcases hH with ⟨rfl, hno⟩ | ⟨j, p', rfl, hj1, hj2, hj3, hj4⟩
    · exact wpAny_pure ⟨(hnone fun i hi p hp => hno i hi (by simp) p hp).symm, rfl⟩
    · exact wpAny_pure ⟨(hsome j hj2 p' hj3 hj4).symm, rfl⟩
theorem ok_ite {α : Type} {c : Prop} [Decidable c] {a b : Sem α} {Q : α → Shared → Prop} (h1 : c → Ok prog w A a s Q) (h2 : ¬ c → Ok prog w A b s Q) : Ok prog w A (if c then a else b) s Q := by
  by_cases h : c
  · rw [if_pos h]; exact h1 h
  · rw [if_neg h]; exact h2 h
theorem key_form {h : Heap} {k : V} {kv : Value} (hk : k.keyOk = true) (hv : VR h σ k kv) : (∃ κ t, kv = .int κ t) ∨ (∃ κ t, k = .str κ ∧ kv = .str κ t) ∨ ∃ a, kv = .ref a := by
  cases k with
  | int κ => obtain ⟨t, e⟩ := hv; exact .inl ⟨κ, t, e⟩
  | str κ => obtain ⟨t, e⟩ := hv; exact .inr (.inl ⟨κ, t, rfl, e⟩)
  | tup κ => obtain ⟨a, _, e, _⟩ := hv; exact .inr (.inr ⟨a, e⟩)
  | _ => (first | exact nosome hk | exact nofalse hk | cases hk)
set_option tactic.hygienic true in
theorem dictFind_ok {d : Addr} {es : List DictEntry} {n : Nat} {l : List (V × V)} {k : V} {kv : Value} (hu : A.units + 10 < cLine) (hd : IsDictAt s.heap d es n) (hl : ER w s.heap σ l es) (hn : KNod l) (hk : k.keyOk = true) (hkv : VR s.heap σ k kv) :
    Ok prog w A (dictFind d kv (vhash w k)) s fun r s' => r = dfind k l ∧ s' = s := by
  have keys := hl.keys
  unfold dictFind
  refine wpAny_holding ?_
  have hdd : (dictOf es n).data = .dict es.toArray n := rfl
  refine wpAny_bind (wpAny_dictEntries hd hdd ?_)
  have hsz : es.toArray.size = l.length := by rw [List.size_toArray, hl.length]
  have hat : ∀ i : Nat, es.toArray[i]? = es[i]? := fun i => by simp
  -- what is found at a place with this hash
  have hplaces : ∀ i ∈ placesWithHash es.toArray.size (fun i => es.toArray[i]?.map (·.hash)) (vhash w k), ∃ p e, l[i]? = some p ∧ es[i]? = some e ∧ p.1.keyOk = true ∧ e.hash = vhash w k ∧ VR s.heap σ p.1 e.key := by
    intro i hi
    unfold placesWithHash at hi
    obtain ⟨hr, hh⟩ := List.mem_filter.mp hi
    have hlt : i < l.length := by rw [← hsz]; exact List.mem_range.mp hr
    obtain ⟨p, hp⟩ := get_of_lt hlt
    obtain ⟨e, he, h1, h2, h3, _⟩ := hl.at hp
    refine ⟨p, e, hp, he, h1, ?_, h3⟩
    have hh : (es.toArray[i]?.map (·.hash)) = some (vhash w k) := by simpa using hh
    rw [hat, he] at hh
    simpa using hh
  have hall : ∀ (i : Nat) (p : V × V), l[i]? = some p → p.1 = k → i ∈ placesWithHash es.toArray.size (fun i => es.toArray[i]?.map (·.hash)) (vhash w k) := by
    intro i p hp hpk
    obtain ⟨e, he, h1, h2, h3, _⟩ := hl.at hp
    unfold placesWithHash
    refine List.mem_filter.mpr ⟨List.mem_range.mpr (by rw [hsz]; exact lt_of_get hp), ?_⟩
    show (es.toArray[i]?.map (·.hash) == some (vhash w k)) = true
    rw [hat, he, ← hpk]
    simp [h2]
  have hnone : (∀ i ∈ placesWithHash es.toArray.size (fun i => es.toArray[i]?.map (·.hash)) (vhash w k), ∀ p, l[i]? = some p → p.1 ≠ k) → dfind k l = none := fun h => by
    refine dfind_none hk keys fun p hp q => ?_
    obtain ⟨i, hi⟩ := List.getElem?_of_mem hp
    exact h i (hall i p hi q) p hi q
  have hsome : ∀ i ∈ placesWithHash es.toArray.size (fun i => es.toArray[i]?.map (·.hash)) (vhash w k), ∀ p, l[i]? = some p → p.1 = k → dfind k l = some i := fun i _ p hp hpk => dfind_some hk keys hn hp hpk
  have hnd : (placesWithHash es.toArray.size (fun i => es.toArray[i]?.map (·.hash)) (vhash w k)).Nodup := by
    unfold placesWithHash
    exact List.Pairwise.filter _ List.nodup_range
  generalize hpl : placesWithHash es.toArray.size (fun i => es.toArray[i]?.map (·.hash)) (vhash w k) = places at hplaces hall hnone hsome hnd
  have hst : ∀ v ∈ places.filterMap (fun i => es.toArray[i]?.map (·.key)), ∃ x, keyOkN 4 x = true ∧ VR s.heap σ x v := by
    intro v hv
    obtain ⟨i, hi, he⟩ := List.mem_filterMap.mp hv
    obtain ⟨p, e, _, h2, h3, _, h5⟩ := hplaces i hi
    rw [hat, h2] at he
    (first | exact nosome he | exact nofalse he | cases he)
    exact ⟨p.1, h3, h5⟩
  -- the turn at one place
  have walkB : Ok prog w A (dictWalkPlain d kv (vhash w k) es.toArray places) s fun r s' => r = dfind k l ∧ s' = s := by
    unfold dictWalkPlain
    refine wpAny_bind ?_
    refine wpAny_forIn_list _ (fun rest b s' => b.1 = none ∧ s' = s ∧ (∀ i ∈ rest, i ∈ places) ∧ ∀ i ∈ places, i ∉ rest → ∀ p, l[i]? = some p → p.1 ≠ k) _ ?_ ?_ _ _ ⟨rfl, rfl, fun _ h => h, fun i h n => absurd h n⟩
    · rintro i rest b s' ⟨hb, rfl, hin, hno⟩
      obtain ⟨p, e, h1, h2, h3, h4, h5⟩ := hplaces i (hin i (.head _))
      rw [hat, h2]
      dsimp only
      rw [if_pos (by rw [h4]; simp)]
      refine wpAny_bind (wpAny_dictEpoch hd hdd (wpAny_bind ((key_eqBool hu h3 hk h5 hkv).to ?_)))
      rintro r s'' ⟨rfl, rfl⟩
      refine wpAny_bind (wpAny_dictEpoch hd hdd ?_)
      show wpAny _ _ (if (n != n) = true then _ else _) _ _ _
      rw [if_neg (by simp)]
      cases q : V.keq p.1 k with
      | true =>
        simp only [if_true]
        have hpk := (keq_iff h3 hk).mp q
        exact wpAny_bind (wpAny_rule (wpAny_pure (wpAny_pure ⟨(hsome i (hin i (.head _)) p h1 hpk).symm, rfl⟩)))
      | false =>
        simp only [Bool.false_eq_true, if_false]
        refine wpAny_bind (wpAny_rule (wpAny_pure ⟨rfl, rfl, fun j hj => hin j (.tail _ hj), fun j hj hjn p' hp' => ?_⟩))
        by_cases hij : j = i
        · subst hij; rw [h1] at hp'; cases hp'; exact (keq_ne h3 hk).mp q
        · exact hno j hj (fun hm => by rcases List.mem_cons.mp hm with z | z; exact hij z; exact hjn z) p' hp'
    · rintro ⟨b1, b2⟩ s' ⟨hb, rfl, hin, hno⟩
      simp only at hb
      subst hb
      exact wpAny_pure ⟨(hnone fun i hi p hp => hno i hi (by simp) p hp).symm, rfl⟩
  have hk4 : keyOkN 4 k = true := hk
  have hw := fun st => walkC_ok (prog := prog) (A := A) (stored := st) hu hd hk hkv hplaces hnone hsome hnd
  have nb : ∀ {α : Type} {Q : α → Shared → Prop} {a b : Sem α} {t : Bool}, t = false → Ok prog w A b s Q → Ok prog w A (if t = true then a else b) s Q := fun e h => by subst e; exact h
  rcases key_form hk hkv with ⟨κ, t, rfl⟩ | ⟨κ, t, rfl, rfl⟩ | ⟨a, rfl⟩
  · clear keys hnone hsome hnd hplaces hall
    refine ok_ite (fun _ => walkB) fun _ => ok_ite (fun _ => wpAny_bind (wpAny_pure (nb rfl (hw _)))) fun _ => (tells_ok ⟨_, hk4, hkv⟩ hst).bind ?_
    intro tells s' q
    rw [q.1, q.2]
    exact nb (by simp) (hw _)
  · clear hnone hsome hnd hplaces hall
    refine ok_ite (fun hA => ?_) fun _ => ?_
    · unfold foundByValue
      have hf : es.toArray.findIdx? (fun e => e.key.isStr κ) = dfind (.str κ) l := by rw [List.findIdx?_toArray]; exact hl.findIdx κ
      rw [hf]
      cases hq : dfind (.str κ) l with
      | none => exact wpAny_pure ⟨rfl, rfl⟩
      | some i =>
        dsimp only
        obtain ⟨p, h1, h2⟩ := dfind_at hk keys hq
        obtain ⟨e, he, h3, h4, h5, h6⟩ := hl.at h1
        rw [hat, he]
        dsimp only
        refine wpAny_bind (wpAny_dictEpoch hd hdd (wpAny_bind ((key_eqBool hu h3 hk h5 hkv).to ?_)))
        rintro r s' ⟨rfl, rfl⟩
        refine wpAny_bind (wpAny_dictEpoch hd hdd ?_)
        show wpAny _ _ (if (n != n) = true then _ else _) _ _ _
        rw [if_neg (by simp), (keq_iff h3 hk).mpr h2]
        simp only [if_true]
        exact wpAny_bind (wpAny_rule (wpAny_pure ⟨rfl, rfl⟩))
    refine ok_ite (fun _ => walkB) fun _ => ok_ite (fun _ => wpAny_bind (wpAny_pure (nb rfl (hw _)))) fun _ => (tells_ok ⟨_, hk4, hkv⟩ hst).bind ?_
    intro tells s' q
    rw [q.1, q.2]
    exact nb (by simp) (hw _)
  · clear keys hnone hsome hnd hplaces hall
    refine ok_ite (fun _ => walkB) fun _ => nb ?_ ?_
    · refine Bool.eq_false_iff.mpr fun hany => ?_
      · skip
        obtain ⟨j, hj, hp⟩ := Array.any_eq_true.mp hany
        have hp : (es.toArray[j].key == Value.ref a) = true ∧ (es.toArray[j].hash != vhash w k) = true := by simpa using hp
        obtain ⟨p, _, h2, h3, h4, _⟩ := hl.atR (i := j) (e := es.toArray[j]) (by rw [← hat]; simp [hj])
        have hkey : es.toArray[j].key = Value.ref a := eq_of_beq hp.1
        rw [hkey] at h4
        have := key_uniq 4 _ _ _ h2 hk h4 hkv
        rw [h3, this] at hp
        simp at hp
    · refine ok_ite (fun _ => wpAny_bind (wpAny_pure (nb rfl (hw _)))) fun _ => (tells_ok ⟨_, hk4, hkv⟩ hst).bind ?_
      intro tells s' q
      rw [q.1, q.2]
      exact nb (by simp) (hw _)
end
end Mine
set_option linter.unusedSimpArgs false
namespace Mine
open PySem PySem.W PyProof.Rows PySem.MeetsSeq PySem.SeqAt
theorem dput_none {k v : V} : ∀ {l : List (V × V)}, dfind k l = none → dput k v l = l ++ [(k, v)]
  | [], _ => rfl
  | p :: l, h => by
    unfold dfind at h
    unfold dput
    cases q : V.keq p.1 k with
    | true => rw [q] at h; (first | exact nosome h | exact nofalse h | cases h)
    | false =>
      rw [q] at h
      have : dfind k l = none := by simpa using h
      show p :: dput k v l = _
      rw [dput_none this]; rfl
theorem dput_keys {k v : V} : ∀ (l : List (V × V)), ∀ q ∈ dput k v l, q.1 = k ∨ ∃ q' ∈ l, q'.1 = q.1
  | [], q, hq => by
    simp [dput] at hq; subst hq; exact .inl rfl
  | p :: l, q, hq => by
    unfold dput at hq
    cases z : V.keq p.1 k with
    | true =>
      rw [z] at hq
      rcases List.mem_cons.mp hq with rfl | hq
      · exact .inr ⟨p, .head _, rfl⟩
      · exact .inr ⟨q, .tail _ hq, rfl⟩
    | false =>
      rw [z] at hq
      rcases List.mem_cons.mp hq with rfl | hq
      · exact .inr ⟨q, .head _, rfl⟩
      · rcases dput_keys l q hq with h | ⟨q', h1, h2⟩
        · exact .inl h
        · exact .inr ⟨q', .tail _ h1, h2⟩
theorem KNod.put {k v : V} (hk : k.keyOk = true) : ∀ {l : List (V × V)}, (∀ p ∈ l, p.1.keyOk = true) → KNod l → KNod (dput k v l)
  | [], _, _ => ⟨fun _ h => (nomatch h), trivial⟩
  | p :: l, hks, h => by
    unfold dput
    cases z : V.keq p.1 k with
    | true => exact ⟨h.1, h.2⟩
    | false =>
      refine ⟨fun q hq => ?_, h.2.put hk fun q hq => hks q (.tail _ hq)⟩
      rcases dput_keys l q hq with e | ⟨q', h1, h2⟩
      · rw [e]; exact fun e' => (keq_ne (hks p (.head _)) hk).mp z e'.symm
      · rw [← h2]; exact h.1 q' h1
section
variable {w : World} {h h' : Heap} {σ : Sg}
theorem ER.append : ∀ {l : List (V × V)} {es : List DictEntry} {l' : List (V × V)} {es' : List DictEntry}, ER w h σ l es → ER w h σ l' es' → ER w h σ (l ++ l') (es ++ es')
  | [], _, _, _, H, H' => by rw [show _ = [] from H]; exact H'
  | p :: l, _, _, _, H, H' => by
    obtain ⟨e, r, rfl, h1, h2, h3, h4, hl⟩ := H
    exact ⟨e, _, rfl, h1, h2, h3, h4, hl.append H'⟩
theorem ER.putOld {k v : V} {val : Value} (hv : VR h σ v val) : ∀ {l : List (V × V)} {es : List DictEntry} {i : Nat}, ER w h σ l es → dfind k l = some i → ER w h σ (dput k v l) (es.modify i fun e => { e with val := val })
  | [], _, _, _, q => by (first | exact nosome q | exact nofalse q | cases q)
  | p :: l, _, i, H, q => by
    obtain ⟨e, r, rfl, h1, h2, h3, h4, hl⟩ := H
    unfold dfind at q
    unfold dput
    cases z : V.keq p.1 k with
    | true =>
      rw [z] at q; (first | exact nosome q | exact nofalse q | cases q)
      exact ⟨_, r, rfl, h1, h2, h3, hv, hl⟩
    | false =>
      rw [z] at q
      cases y : dfind k l with
      | none => simp [y] at q
      | some j =>
        simp [y] at q; subst q
        exact ⟨e, r.modify j _, by simp, h1, h2, h3, h4, ER.putOld hv hl y⟩
end
section
variable {prog : Program} {w : World} {T : Tb} {base : Heap} {A : Around} {s : Shared} {σ : Sg} {H : Hp}
theorem dictGet_ok {d : Addr} {es : List DictEntry} {n : Nat} {l : List (V × V)} {k : V} {kv : Value} (hu : A.units + 10 < cLine) (hd : IsDictAt s.heap d es n) (hl : ER w s.heap σ l es) (hn : KNod l) (hk : k.keyOk = true) (hkv : VR s.heap σ k kv) :
    Ok prog w A (dictGet d kv) s fun r s' => (∃ t, s' = { s with toks := t }) ∧ match dlook k l with | some v => ∃ val, r = some val ∧ VR s.heap σ v val | none => r = none := by
  unfold dictGet
  refine wpAny_holding ?_
  refine (hash_ok 4 A s k kv (by omega) hk hkv).bind ?_
  rintro h s' ⟨rfl, t, rfl⟩
  refine (dictFind_ok (s := { s with toks := t }) hu hd hl hn hk hkv).bind ?_
  rintro r s' ⟨rfl, rfl⟩
  rw [dlook_eq]
  cases hq : dfind k l with
  | none => exact wpAny_pure ⟨⟨t, rfl⟩, rfl⟩
  | some i =>
    obtain ⟨p, h1, h2⟩ := dfind_at hk hl.keys hq
    obtain ⟨e, he, h3, h4, h5, h6⟩ := hl.at h1
    refine wpAny_bind (wpAny_dictEntries hd rfl (wpAny_pure ⟨⟨t, rfl⟩, ?_⟩))
    have : es.toArray[i]? = some e := by simpa using he
    rw [this]
    simp [h1, h6]
theorem Inv.dictAt {h : Heap} (I : Inv T w base σ H h) {i : Nat} {l : List (V × V)} (e : H[i]? = some (.dict l)) : ∃ d es n, σ[i]? = some (some (d, d)) ∧ IsDictAt h d es n ∧ ER w h σ l es ∧ KNod l ∧ (d == sysModules) = false := by
  obtain ⟨p, hp, d, es, n, rfl, h1, h2, h3⟩ := I.at e
  refine ⟨d, es, n, hp, h1, h2, h3, ?_⟩
  have := (I.fresh d (rng_of hp)).2
  rw [beq_eq_false_iff_ne]
  intro q
  rw [q] at this
  exact absurd this (by decide)
theorem VR.refAt {h : Heap} {i : Nat} {v : Value} {d x : Addr} (hv : VR h σ (.ref i) v) (e : σ[i]? = some (some (x, d))) : v = .ref x := by
  obtain ⟨_, a, rfl, q⟩ := hv
  have := q _ e
  exact congrArg Value.ref this.symm
theorem contains_ok {i : Nat} {l : List (V × V)} {k : V} {kv b : Value} (hu : A.units + 20 < cLine) (I : Inv T w base σ H s.heap) (e : H[i]? = some (.dict l)) (hb : VR s.heap σ (.ref i) b) (hk : k.keyOk = true) (hkv : VR s.heap σ k kv) :
    Ok prog w A (contains b kv) s fun v s' => v = (dlook k l).isSome ∧ ∃ t, s' = { s with toks := t } := by
  obtain ⟨d, es, n, hp, h1, h2, h3, hs⟩ := I.dictAt e
  rw [hb.refAt hp]
  have hT : s.TypeIs (.ref d) "dict" := ⟨_, h1, rfl⟩
  unfold contains
  refine wpAny_holding ?_
  refine wpAny_bind (wpAny_specialOf hT slot_dict_contains.lookup ?_)
  show wpAny _ _ (if (some (Value.builtin "dict.__contains__") == some Value.none) = true then _ else _) _ _ s
  rw [if_neg (by rw [beq_builtin_none]; exact Bool.false_ne_true)]
  refine wpAny_bind (wpAny_callSpecialUnlessNone?_slot (name := Str.ofString "__contains__") hT slot_dict_contains
    (wpAny_call_entry slot_dict_contains hT entry_dict_contains ?_ (args_dict_contains _ _)))
  show wpAny _ _ (dictGet d kv >>= _) _ _ s
  refine (dictGet_ok (A := A.in1) (by show A.units + 1 + 10 < cLine; omega) h1 h2 h3 hk hkv).bind ?_
  rintro r s' ⟨⟨t, rfl⟩, hr⟩
  cases hq : dlook k l with
  | some v =>
    rw [hq] at hr
    obtain ⟨val, rfl, _⟩ := hr
    show wpAny _ _ (ret (.bool true)) _ _ _
    exact wpAny_pure ⟨_, rfl, wpAny_truthy_bool ⟨rfl, t, rfl⟩⟩
  | none =>
    rw [hq] at hr
    subst hr
    show wpAny _ _ (Builtin.Dict.pendingKey? d kv >>= _) _ _ _
    exact wpAny_bind (wpAny_pendingKey_other hs (wpAny_pure ⟨_, rfl, wpAny_truthy_bool ⟨rfl, t, rfl⟩⟩))
theorem dictItem_ok {i : Nat} {l : List (V × V)} {k v : V} {kv b : Value} (hu : A.units + 20 < cLine) (I : Inv T w base σ H s.heap) (e : H[i]? = some (.dict l)) (hb : VR s.heap σ (.ref i) b) (hk : k.keyOk = true) (hkv : VR s.heap σ k kv) (hv : dlook k l = some v) :
    Ok prog w A (getItem b kv) s fun val s' => VR s.heap σ v val ∧ ∃ t, s' = { s with toks := t } := by
  obtain ⟨d, es, n, hp, h1, h2, h3, hs⟩ := I.dictAt e
  rw [hb.refAt hp]
  have hT : s.TypeIs (.ref d) "dict" := ⟨_, h1, rfl⟩
  unfold getItem
  refine wpAny_holding ?_
  refine wpAny_bind (wpAny_sequenceKey hT (by decide) ?_)
  refine wpAny_bind (wpAny_callSpecial?_slot (name := Str.ofString "__getitem__") hT slot_dict_getitem
    (wpAny_call_entry slot_dict_getitem hT entry_dict_getitem ?_ (args_dict_getitem _ _)))
  show wpAny _ _ (dictGet d kv >>= _) _ _ s
  refine (dictGet_ok (A := A.in1) (by show A.units + 1 + 10 < cLine; omega) h1 h2 h3 hk hkv).bind ?_
  rintro r s' ⟨⟨t, rfl⟩, hr⟩
  rw [hv] at hr
  obtain ⟨val, rfl, hval⟩ := hr
  exact wpAny_pure ⟨val, rfl, wpAny_pure ⟨hval, t, rfl⟩⟩
theorem dictGet2_ok {i : Nat} {l : List (V × V)} {k d0 : V} {kv b dv : Value} (hu : A.units + 20 < cLine) (I : Inv T w base σ H s.heap) (e : H[i]? = some (.dict l)) (hb : VR s.heap σ (.ref i) b) (hk : k.keyOk = true) (hkv : VR s.heap σ k kv) (hdv : VR s.heap σ d0 dv) :
    Ok prog w A (call (.builtin "dict.get") [b, kv, dv]) s fun val s' => VR s.heap σ ((dlook k l).getD d0) val ∧ ∃ t, s' = { s with toks := t } := by
  obtain ⟨d, es, n, hp, h1, h2, h3, hs⟩ := I.dictAt e
  rw [hb.refAt hp]
  have hT : s.TypeIs (.ref d) "dict" := ⟨_, h1, rfl⟩
  refine wpAny_call_entry F.slot_dict_get hT F.entry_dict_get ?_ (F.args_dict_get_3 _ _ _)
  show wpAny _ _ (dictGet d kv >>= _) _ _ s
  refine (dictGet_ok (A := A.in1) (by show A.units + 1 + 10 < cLine; omega) h1 h2 h3 hk hkv).bind ?_
  rintro r s' ⟨⟨t, rfl⟩, hr⟩
  cases hq : dlook k l with
  | some v =>
    rw [hq] at hr
    obtain ⟨val, rfl, hval⟩ := hr
    exact wpAny_pure ⟨val, rfl, hval, t, rfl⟩
  | none =>
    rw [hq] at hr
    subst hr
    show wpAny _ _ (Builtin.Dict.missed d kv >>= _) _ _ _
    exact wpAny_bind (wpAny_missed_other hs (wpAny_pure ⟨dv, rfl, hdv, t, rfl⟩))
theorem dictSet_ok {d : Addr} {es : List DictEntry} {n : Nat} {l : List (V × V)} {k v : V} {kv val : Value} (hu : A.units + 10 < cLine) (hd : IsDictAt s.heap d es n) (hl : ER w s.heap σ l es) (hn : KNod l) (hk : k.keyOk = true) (hkv : VR s.heap σ k kv) (hv : VR s.heap σ v val) (hsz : l.length ≤ cap) :
    Ok prog w A (dictSet d kv val) s fun _ s' => ∃ t h' es' n', s' = { s with heap := h', toks := t } ∧ Heap.SameBut d s.heap h' ∧ IsDictAt h' d es' n' ∧ ER w s.heap σ (dput k v l) es' := by
  unfold dictSet
  refine wpAny_holding ?_
  refine (hash_ok 4 A s k kv (by omega) hk hkv).bind ?_
  rintro h s' ⟨rfl, t, rfl⟩
  unfold dictSetHashed
  refine wpAny_holding ?_
  refine (dictFind_ok (s := { s with toks := t }) hu hd hl hn hk hkv).bind ?_
  rintro r s' ⟨rfl, rfl⟩
  cases hq : dfind k l with
  | none =>
    refine wpAny_bind (wpAny_rule ?_)
    refine wpAny_updateDictKeys hd rfl ?_ (by show es.toArray.size ≤ sizeLine; rw [sizeLine_eq, List.size_toArray, ← hl.length]; unfold cap at hsz; omega)
    refine ⟨t, _, es ++ [⟨vhash w k, kv, val⟩], n + 1, rfl, Heap.SameBut.update .., ?_, ?_⟩
    · refine (Heap.get?_update_self _ hd (by rfl)).trans ?_
      simp [Obj.mapDictKeys, vhash]
    · rw [dput_none hq]
      exact hl.append ⟨_, [], rfl, hk, rfl, hkv, hv, rfl⟩
  | some i =>
    refine wpAny_bind (wpAny_rule ?_)
    refine wpAny_bind (wpAny_updateDict hd rfl (wpAny_point ?_) (by simp))
    refine ⟨t, _, es.modify i (fun e => { e with val := val }), n, rfl, Heap.SameBut.update .., ?_, hl.putOld hv hq⟩
    refine (Heap.get?_update_self _ hd (by rfl)).trans ?_
    simp [Obj.mapDict]
end
end Mine
set_option linter.unusedSimpArgs false
namespace Mine
open PySem PySem.W PyProof.Rows PySem.MeetsSeq PySem.SeqAt
theorem fm_some {α β : Type} (f : α → Option β) (g : α → β) : ∀ l : List α, (∀ x ∈ l, f x = some (g x)) → l.filterMap f = l.map g
  | [], _ => rfl
  | x :: l, h => by rw [List.filterMap_cons, h x (.head _), List.map_cons, fm_some f g l fun y hy => h y (.tail _ hy)]
theorem slicePick_rev (items : Array Value) : slicePick items none none (some (-1)) = items.toList.reverse.toArray := by
  unfold slicePick
  apply Array.ext'
  simp only
  have hb : sliceBounds none none (some (-1)) items.size = ((items.size : Int) - 1, -1, -1) := rfl
  rw [hb]
  unfold sliceRange
  simp only
  have hc : (if (-1 : Int) > 0 then (if (items.size : Int) - 1 < -1 then (-1 - ((items.size : Int) - 1) + -1 - 1) / -1 else 0) else if (items.size : Int) - 1 > -1 then ((items.size : Int) - 1 - -1 - -1 - 1) / (- -1) else 0).toNat = items.size := by
    rw [if_neg (by omega)]
    split
    · have : ((items.size : Int) - 1 - -1 - -1 - 1) / (- -1) = items.size := by
        have : (- -1 : Int) = 1 := rfl
        rw [this, Int.ediv_one]; omega
      rw [this]; omega
    · omega
  rw [hc, List.filterMap_map]
  apply List.ext_getElem?
  intro i
  have key : List.filterMap ((fun x => items[x]?) ∘ fun k : Nat => ((items.size : Int) - 1 + -1 * (k : Int)).toNat) (List.range items.size) = (List.range items.size).map fun k => items[items.size - 1 - k]?.getD default := by
    refine fm_some _ _ _ fun k hk => ?_
    have hk := List.mem_range.mp hk
    have e : ((items.size : Int) - 1 + -1 * (k : Int)).toNat = items.size - 1 - k := by omega
    simp only [Function.comp, e]
    rw [Array.getElem?_eq_getElem (by omega)]
    rfl
  rw [key]
  by_cases hi : i < items.size
  · rw [List.getElem?_reverse (by simpa using hi)]
    simp [hi]
    rw [Array.getElem?_eq_getElem (by omega)]
    rfl
  · rw [List.getElem?_eq_none (by simpa using hi), List.getElem?_eq_none (by simpa using hi)]
set_option tactic.hygienic true in
theorem idx_some {n : Nat} {i : Int} {j : Nat} (h : idx n i = some j) : (0 ≤ i ∧ i = j ∨ i < 0 ∧ i + n = j) ∧ j < n ∧ -(cap : Int) ≤ i ∧ i < cap := by
  unfold idx at h
  cases i with
  | ofNat k =>
    simp only at h
    split at h
    · rename_i q
      rw [Bool.and_eq_true] at q
      obtain rfl : k = j := Option.some.inj h
      have q1 : k < n := Nat.le_of_ble_eq_true q.1
      have q2 : k < cap := Nat.le_of_ble_eq_true q.2
      refine ⟨.inl ⟨Int.natCast_nonneg _, rfl⟩, q1, by unfold cap; exact Int.le_trans (by decide) (Int.natCast_nonneg k), by exact Int.ofNat_lt.mpr q2⟩
    · (first | exact nosome h | exact nofalse h | cases h)
  | negSucc k =>
    simp only at h
    split at h
    · rename_i q
      rw [Bool.and_eq_true] at q
      first | (replace h := s3 h; obtain ⟨h1', h2', h3'⟩ := h; subst h1'; cases h2'; (first | exact nosome h3' | exact nofalse h3' | cases h3')) | (replace h := s2 h; obtain ⟨rfl, rfl⟩ := h) | (first | exact nosome h | exact nofalse h | cases h)
      have q1 : k < n := Nat.le_of_ble_eq_true q.1
      have q2 : k < cap := Nat.le_of_ble_eq_true q.2
      rw [Int.negSucc_eq]
      refine ⟨.inr ⟨by omega, by omega⟩, by omega, by omega, by omega⟩
    · (first | exact nosome h | exact nofalse h | cases h)
theorem idx_seq {n : Nat} {i : Int} {j : Nat} (h : idx n i = some j) : seqIndex? i n = some j := by
  obtain ⟨h1, h2, _⟩ := idx_some h
  unfold seqIndex?
  rcases h1 with ⟨h3, rfl⟩ | ⟨h3, h4⟩
  · simp; omega
  · simp only [if_pos h3, h4]
    simp; omega
section
variable {prog : Program} {w : World} {T : Tb} {base : Heap} {A : Around} {s : Shared} {σ : Sg} {H : Hp}
theorem tupItem_ok {t : Addr} {items : Array Value} {k : Int} {u : Tok} {j : Nat} {x : Value} (ht : s.heap.IsTuple t items) (hj : idx items.size k = some j) (hx : items[j]? = some x) :
    Ok prog w A (getItem (.ref t) (.int k u)) s fun v s' => v = x ∧ s' = s := by
  obtain ⟨h1, h2, h3, h4⟩ := idx_some hj
  unfold cap at h3 h4
  exact getItem_tuple ht (by omega) (by omega) (idx_seq hj) hx ⟨rfl, rfl⟩
theorem listItem_ok {l : Addr} {items : Array Value} {k : Int} {t : Tok} {j : Nat} {x : Value} (hl : s.heap.IsList l items) (hj : idx items.size k = some j) (hx : items[j]? = some x) :
    Ok prog w A (getItem (.ref l) (.int k t)) s fun v s' => v = x ∧ s' = s := by
  obtain ⟨h1, h2, h3, h4⟩ := idx_some hj
  unfold cap at h3 h4
  rcases h1 with ⟨h5, rfl⟩ | ⟨h5, h6⟩
  · exact wpAny_getItem_list hl h5 (by omega) (by simpa using hx) ⟨rfl, rfl⟩
  · obtain ⟨o, ho, hc, ne, hd⟩ := id hl
    have hf : Builtin.List.listFitsIndex k = true := by unfold Builtin.List.listFitsIndex; simp; omega
    have hq := idx_seq hj
    clear hj h3 h4
    unfold getItem
    refine wpAny_holding ?_
    refine wpAny_bind (wpAny_sequenceKey hl.typeIs (by decide) ?_)
    refine wpAny_bind (wpAny_callSpecial?_slot (name := Str.ofString "__getitem__") hl.typeIs F.slot_list_getitem
      (wpAny_call_entry F.slot_list_getitem hl.typeIs F.entry_list_getitem ?_ (F.args_list_getitem_2 _ _)))
    show wpAny _ _ (Builtin.List.listSubscript? (.int k t) >>= _) _ _ s
    refine wpAny_bind (wpAny_listSubscript_int hf ?_)
    clear hf
    cases k with
    | ofNat m => exact absurd h5 (by simp)
    | negSucc m =>
    show wpAny _ _ ((Builtin.List.listItems (.ref l) >>= fun xs => pure ((seqIndex? (.negSucc m) xs.size).bind fun j => xs[j]?.map (j, ·))) >>= _) _ _ s
    unfold Builtin.List.listItems
    refine wpAny_bind (wpAny_bind (wpAny_bind (wpAny_seqItems ho hd (wpAny_pure (wpAny_pure ?_)))))
    rw [hq]
    simp only [Option.bind_some, hx, Option.map_some]
    first
      | exact wpAny_bind (wpAny_pure (wpAny_pure ⟨x, rfl, wpAny_pure ⟨rfl, rfl⟩⟩))
      | exact wpAny_pure ⟨x, rfl, wpAny_pure ⟨rfl, rfl⟩⟩
set_option tactic.hygienic true in
theorem sub_ok {x k v : V} {a b : Value} (hu : A.units + 20 < cLine) (I : Inv T w base σ H s.heap) (ha : VR s.heap σ x a) (hb : VR s.heap σ k b) (e : subOp H x k = some v) :
    (∃ Ty id, s.TypeIs a Ty ∧ typeLookup (.type Ty) "__getitem__" = pure (some (.builtin id))) ∧ Ok prog w A (getItem a b) s fun val s' => VR s.heap σ v val ∧ ∃ t, s' = { s with toks := t } := by
  unfold subOp at e
  split at e
  · rename_i l
    split at e
    · rename_i i
      obtain ⟨c, items, rfl, ht, _, hs⟩ := ha
      obtain ⟨t, rfl⟩ := hb
      have hT : s.TypeIs (.ref c) "tuple" := by obtain ⟨o, ho, hc, _⟩ := ht; exact ⟨o, ho, hc⟩
      refine ⟨⟨"tuple", _, hT, F.slot_tuple_getitem.lookup⟩, ?_⟩
      cases q : idx l.length i with
      | none => rw [q] at e; (first | exact nosome e | exact nofalse e | cases e)
      | some j =>
        rw [q] at e
        obtain ⟨val, hv, h2⟩ := hs.get e
        refine (tupItem_ok ht (j := j) (by rw [← q, hs.length, Array.length_toList]) (by simpa using hv)).to ?_
        rintro _ _ ⟨rfl, rfl⟩
        exact ⟨h2, _, rfl⟩
    · (first | exact nosome e | exact nofalse e | cases e)
  · rename_i l
    split at e
    · rename_i i
      obtain ⟨c, items, rfl, ht, _, hs⟩ := ha
      obtain ⟨t, rfl⟩ := hb
      refine ⟨⟨"list", _, ht.typeIs, F.slot_list_getitem.lookup⟩, ?_⟩
      cases q : idx l.length i with
      | none => rw [q] at e; (first | exact nosome e | exact nofalse e | cases e)
      | some j =>
        rw [q] at e
        obtain ⟨val, hv, h2⟩ := hs.get e
        refine (listItem_ok ht (j := j) (by rw [← q, hs.length, Array.length_toList]) (by simpa using hv)).to ?_
        rintro _ _ ⟨rfl, rfl⟩
        exact ⟨h2, _, rfl⟩
    · (first | exact nosome e | exact nofalse e | cases e)
  · rename_i r
    split at e
    · rename_i l hl
      split at e
      · rename_i i
        obtain ⟨p, hp, c, items, rfl, ht0, hs⟩ := I.at hl
        have ht := ht0.isList
        rw [ha.refAt hp]
        obtain ⟨t, rfl⟩ := hb
        refine ⟨⟨"list", _, ht.typeIs, F.slot_list_getitem.lookup⟩, ?_⟩
        cases q : idx l.length i with
        | none => rw [q] at e; (first | exact nosome e | exact nofalse e | cases e)
        | some j =>
          rw [q] at e
          obtain ⟨val, hv, h2⟩ := hs.get e
          refine (listItem_ok ht (j := j) (by rw [← q, hs.length, Array.length_toList]) (by simpa using hv)).to ?_
          rintro _ _ ⟨rfl, rfl⟩
          exact ⟨h2, _, rfl⟩
      · (first | exact nosome e | exact nofalse e | cases e)
    · rename_i l hl
      split at e
      · rename_i hk
        obtain ⟨d, es, n, hp, h1, _⟩ := I.dictAt hl
        refine ⟨⟨"dict", _, by rw [ha.refAt hp]; exact ⟨_, h1, rfl⟩, slot_dict_getitem.lookup⟩, dictItem_ok hu I hl ha hk hb e⟩
      · (first | exact nosome e | exact nofalse e | cases e)
    · (first | exact nosome e | exact nofalse e | cases e)
  · (first | exact nosome e | exact nofalse e | cases e)
end
end Mine
set_option linter.unusedSimpArgs false
namespace Mine
open PySem PySem.W PyProof.Rows PySem.MeetsSeq PySem.SeqAt
section
variable {prog : Program} {w : World} {T : Tb} {base : Heap} {P : Pg} {C : CallT} {A : Around} {nm : Nm} {env : Env} {s : Shared} {σ : Sg} {ρ : Rho} {H : Hp}
noncomputable def notSlice : Expr → Bool
  | .Slice .. => false
  | _ => true
theorem subs_plain {i : Expr} (h : notSlice i = true) (o v : Value) : subscripted i false o v = operate [o, v] (getItem o v) := by
  cases i <;> first | rfl | (first | exact nosome h | exact nofalse h | cases h)
set_option tactic.hygienic true in
theorem se_sub {v i : Expr} {a b : E} {pos : Pos} (hu : A.units + 20 < cLine) (hi : notSlice i = true) (hv : SE prog w T base P C A nm env v a) (hk : SE prog w T base P C A nm env i b) : SE prog w T base P C A nm env (.Subscript v i pos) (.sub a b) := by
  intro ρ H x H' σ s h I F
  simp only [evE, e_cst, e_var, e_glob, e_nil, e_cons, e_tup, e_lst, e_lstH, e_dictH, e_and, e_or, e_not, e_neg, e_bin, e_cmp, e_cmp2, e_cmp3, e_ife, e_attr, e_sub, e_slice, e_rev, e_call, e_meth, e_new, e_sup, e_bm, e_bi, e_isi, e_comp, e_bvn] at h
  split at h
  · rename_i x1 H1 h1
    split at h
    · rename_i y H2 h2
      cases q : subOp H2 x1 y with
      | none => rw [q] at h; (first | exact nosome h | exact nofalse h | cases h)
      | some z =>
        rw [q] at h; (first | exact nosome h | exact nofalse h | cases h)
        refine Subscript_ ((hv ρ H x1 H1 σ s h1 I F).to ?_)
        rintro o s1 ⟨σ1, st1, I1, v1⟩
        refine (hk ρ H1 y H' σ1 s1 h2 I1 (F.stp st1)).to ?_
        rintro iv s2 ⟨σ2, st2, I2, v2⟩
        obtain ⟨⟨Ty, id, hT, hl⟩, hg⟩ := sub_ok (prog := prog) hu I2 (v1.stp st2) v2 q
        refine tail_any hT hl (hg.to ?_) (subs_plain hi _ _)
        rintro val s3 ⟨hval, t, rfl⟩
        exact PE.after (st1.trans st2) (PE.of I2 hval)
    · (first | exact nosome h | exact nofalse h | cases h)
  · (first | exact nosome h | exact nofalse h | cases h)
noncomputable def SO (prog : Program) (w : World) (T : Tb) (base : Heap) (P : Pg) (C : CallT) (A : Around) (nm : Nm) (env : Env) : Option Expr → E → Prop
  | none, ir => ir = .cst .none
  | some e, ir => SE prog w T base P C A nm env e ir
theorem opt_ok {lo : Option Expr} {a : E} {v : V} {H' : Hp} (hl : SO prog w T base P C A nm env lo a) (h : evE P C a ρ H = some (v, H')) (I : Inv T w base σ H s.heap) (F : Frm nm env base s.heap σ ρ) : Ok prog w A (valueOrNone (evalOpt lo env)) s (PE T w base σ s v H') := by
  cases lo with
  | none =>
    (first | exact nosome hl | exact nofalse hl | cases hl)
    simp only [evE, Option.some.injEq, Prod.mk.injEq, e_cst, e_var, e_glob, e_nil, e_cons, e_tup, e_lst, e_lstH, e_dictH, e_and, e_or, e_not, e_neg, e_bin, e_cmp, e_cmp2, e_cmp3, e_ife, e_attr, e_sub, e_slice, e_rev, e_call, e_meth, e_new, e_sup, e_bm, e_bi, e_isi, e_comp, e_bvn] at h
    obtain ⟨rfl, rfl⟩ := h
    exact wpAny_pure (PE.of0 I rfl)
  | some e => exact hl ρ H v H' σ s h I F
theorem part_of {x : V} {v : Value} (hv : VR s.heap σ x v) : (x = .none → IsPart v none) ∧ ∀ i, x = .int i → IsPart v (some i) := by
  refine ⟨fun e => ?_, fun i e => ?_⟩
  · subst e; cases hv; exact .none
  · subst e; obtain ⟨t, rfl⟩ := hv; exact .int i t
set_option tactic.hygienic true in
theorem list_of {x : V} {l : List V} {v : Value} (I : Inv T w base σ H s.heap) (e : listOf H x = some l) (hv : VR s.heap σ x v) : ∃ a items, v = .ref a ∧ s.heap.IsList a items ∧ VRs s.heap σ l items.toList := by
  unfold listOf at e
  split at e
  · (first | exact nosome e | exact nofalse e | cases e)
    obtain ⟨a, items, rfl, h1, _, h2⟩ := hv
    exact ⟨a, items, rfl, h1, h2⟩
  · rename_i i
    split at e
    · rename_i l' hl
      first | (replace e := s3 e; obtain ⟨h1', h2', h3'⟩ := e; subst h1'; cases h2'; (first | exact nosome h3' | exact nofalse h3' | cases h3')) | (replace e := s2 e; obtain ⟨rfl, rfl⟩ := e) | (first | exact nosome e | exact nofalse e | cases e)
      obtain ⟨p, hp, c, items, rfl, ht0, hs⟩ := I.at hl
      have ht := ht0.isList
      exact ⟨c, items, hv.refAt hp, ht, hs⟩
    · (first | exact nosome e | exact nofalse e | cases e)
  · (first | exact nosome e | exact nofalse e | cases e)
theorem newListAt {l : List V} {items : Array Value} (I : Inv T w base σ H s.heap) (hv : VRs s.heap σ l items.toList) : PE T w base σ s (.lst l) H (.ref s.heap.objs.size) { s with heap := s.heap.push { cls := .type "list", data := .seq items } } :=
  PE.grown (t := s.toks) I (push_get _ _) ⟨_, items, rfl, ⟨_, Heap.get?_push_size _ rfl, rfl, 0, rfl⟩, I.notNew (fresh_none _), VRs.step (fun b o e _ _ => push_get _ _ b o e) (.refl ..) _ hv⟩
theorem newTupAt {l : List V} {items : Array Value} (I : Inv T w base σ H s.heap) (hv : VRs s.heap σ l items.toList) : PE T w base σ s (.tup l) H (.ref s.heap.objs.size) { s with heap := s.heap.push { cls := .type "tuple", data := .seq items } } :=
  PE.grown (t := s.toks) I (push_get _ _) ⟨_, items, rfl, ⟨_, Heap.get?_push_size _ rfl, rfl, 0, rfl⟩, I.notNew (fresh_none _), VRs.step (fun b o e _ _ => push_get _ _ b o e) (.refl ..) _ hv⟩
set_option tactic.hygienic true in
theorem slice_ok {x lo hi v : V} {a vl vu : Value} {sl : Addr} (I : Inv T w base σ H s.heap) (ha : VR s.heap σ x a) (hlo : VR s.heap σ lo vl) (hhi : VR s.heap σ hi vu) (hs : s.heap.IsSliceOf sl vl vu .none) (e : sliceOp H x lo hi = some v) :
    (∃ Ty id, s.TypeIs a Ty ∧ typeLookup (.type Ty) "__getitem__" = pure (some (.builtin id))) ∧ Ok prog w A (getItem a (.ref sl)) s (PE T w base σ s v H) := by
  unfold sliceOp at e
  split at e
  · rename_i l
    split at e
    · rename_i n
      split at e
      · rename_i q
        first | (replace e := s3 e; obtain ⟨h1', h2', h3'⟩ := e; subst h1'; cases h2'; (first | exact nosome h3' | exact nofalse h3' | cases h3')) | (replace e := s2 e; obtain ⟨rfl, rfl⟩ := e) | (first | exact nosome e | exact nofalse e | cases e)
        rw [Bool.and_eq_true] at q
        have q1 : n + 1 ≤ l.length := Nat.le_of_ble_eq_true q.1
        have q2 : l.length ≤ cap := Nat.le_of_ble_eq_true q.2
        obtain ⟨c, items, rfl, ht, _, hv⟩ := ha
        obtain ⟨t, rfl⟩ := hlo
        (first | exact nosome hhi | exact nofalse hhi | cases hhi)
        have hlen : l.length = items.size := by rw [hv.length, Array.length_toList]
        have hT : s.TypeIs (.ref c) "tuple" := by obtain ⟨o, ho, hc, _⟩ := ht; exact ⟨o, ho, hc⟩
        refine ⟨⟨"tuple", _, hT, F.slot_tuple_getitem.lookup⟩, ?_⟩
        refine getItem_tuple_from (a := n + 1) ht hs (by omega) (by omega) ?_ (by rw [sizeLine_eq]; unfold cap at q2; omega)
        exact newTupAt I (by simpa using hv.drop (n + 1))
      · (first | exact nosome e | exact nofalse e | cases e)
    · (first | exact nosome e | exact nofalse e | cases e)
  · rename_i x' hx
    split at e
    · rename_i l hl
      split at e
      · rename_i q
        have q2 : l.length ≤ cap := Nat.le_of_ble_eq_true q
        obtain ⟨c, items, rfl, ht, hv⟩ := list_of I hl ha
        have hlen : l.length = items.size := by rw [hv.length, Array.length_toList]
        refine ⟨⟨"list", _, ht.typeIs, F.slot_list_getitem.lookup⟩, ?_⟩
        have hsz : items.size ≤ sizeLine := by rw [sizeLine_eq]; unfold cap at q2; omega
        unfold cut at e
        split at e
        · rename_i n
          first | (replace e := s3 e; obtain ⟨h1', h2', h3'⟩ := e; subst h1'; cases h2'; (first | exact nosome h3' | exact nofalse h3' | cases h3')) | (replace e := s2 e; obtain ⟨rfl, rfl⟩ := e) | (first | exact nosome e | exact nofalse e | cases e)
          refine wpAny_getItem_list_slice ht hs ((part_of hlo).2 _ rfl) ((part_of hhi).1 rfl) .none (by simp) ?_ hsz
          rw [show (Int.ofNat n) = ((n : Nat) : Int) from rfl, slicePick_from']
          exact newListAt I (by simpa using hv.drop n)
        · rename_i n
          first | (replace e := s3 e; obtain ⟨h1', h2', h3'⟩ := e; subst h1'; cases h2'; (first | exact nosome h3' | exact nofalse h3' | cases h3')) | (replace e := s2 e; obtain ⟨rfl, rfl⟩ := e) | (first | exact nosome e | exact nofalse e | cases e)
          refine wpAny_getItem_list_slice ht hs ((part_of hlo).1 rfl) ((part_of hhi).2 _ rfl) .none (by simp) ?_ hsz
          rw [show (Int.ofNat n) = ((n : Nat) : Int) from rfl, slicePick_upto']
          exact newListAt I (by simpa using hv.take n)
        · rename_i n m
          split at e
          · rename_i q
            first | (replace e := s3 e; obtain ⟨h1', h2', h3'⟩ := e; subst h1'; cases h2'; (first | exact nosome h3' | exact nofalse h3' | cases h3')) | (replace e := s2 e; obtain ⟨rfl, rfl⟩ := e) | (first | exact nosome e | exact nofalse e | cases e)
            rw [Bool.and_eq_true] at q
            have q1 : n ≤ m := Nat.le_of_ble_eq_true q.1
            have q2 : m ≤ l.length := Nat.le_of_ble_eq_true q.2
            refine wpAny_getItem_list_slice ht hs ((part_of hlo).2 _ rfl) ((part_of hhi).2 _ rfl) .none (by simp) ?_ hsz
            rw [show (Int.ofNat n) = ((n : Nat) : Int) from rfl, show (Int.ofNat m) = ((m : Nat) : Int) from rfl, slicePick_run _ _ _ (by omega) q1]
            exact newListAt I (by simpa using (hv.drop n).take (m - n))
          · (first | exact nosome e | exact nofalse e | cases e)
        · (first | exact nosome e | exact nofalse e | cases e)
      · (first | exact nosome e | exact nofalse e | cases e)
    · (first | exact nosome e | exact nofalse e | cases e)
theorem newSlice_ok {vl vu vs : Value} (I : Inv T w base σ H s.heap) : Ok prog w A (newFields "slice" [vl, vu, vs]) s fun v s' => ∃ sl, v = .ref sl ∧ Stp σ σ s s' ∧ Inv T w base σ H s'.heap ∧ s'.heap.IsSliceOf sl vl vu vs := by
  unfold newFields
  exact wpAny_newObj_type ⟨_, rfl, .more (t := s.toks) (push_get _ _), I.more (push_get _ _), .new ..⟩
set_option tactic.hygienic true in
theorem se_slice {v : Expr} {lo hi : Option Expr} {a b c : E} {p pos : Pos} (hv : SE prog w T base P C A nm env v a) (hl : SO prog w T base P C A nm env lo b) (hh : SO prog w T base P C A nm env hi c) : SE prog w T base P C A nm env (.Subscript v (.Slice lo hi none p) pos) (.slice a b c) := by
  intro ρ H x H' σ s h I F
  simp only [evE, e_cst, e_var, e_glob, e_nil, e_cons, e_tup, e_lst, e_lstH, e_dictH, e_and, e_or, e_not, e_neg, e_bin, e_cmp, e_cmp2, e_cmp3, e_ife, e_attr, e_sub, e_slice, e_rev, e_call, e_meth, e_new, e_sup, e_bm, e_bi, e_isi, e_comp, e_bvn] at h
  refine Classical.byContradiction fun hcon => ?_
  split at h
  · rename_i x1 H1 h1
    split at h
    · rename_i y H2 h2
      split at h
      · rename_i z H3 h3
        cases q : sliceOp H3 x1 y z with
        | none => rw [q] at h; (first | exact nosome h | exact nofalse h | cases h)
        | some r =>
          rw [q] at h; (first | exact nosome h | exact nofalse h | cases h)
          refine hcon ?_
          refine Subscript_ ((hv ρ H x1 H1 σ s h1 I F).to ?_)
          rintro o s1 ⟨σ1, st1, I1, v1⟩
          show wpAny _ _ (valueOrNone (evalOpt lo env) >>= fun l => holding [l] (valueOrNone (evalOpt hi env)) >>= fun u => holding [l, u] (valueOrNone none) >>= fun st => newFields "slice" [l, u, st]) _ _ s1
          refine (opt_ok hl h2 I1 (F.stp st1)).bind ?_
          rintro vl s2 ⟨σ2, st2, I2, v2⟩
          refine wpAny_bind (wpAny_holding ((opt_ok hh h3 I2 ((F.stp st1).stp st2)).to ?_))
          rintro vu s3 ⟨σ3, st3, I3, v3⟩
          refine wpAny_bind (wpAny_holding (wpAny_pure ?_))
          refine (newSlice_ok I3).to ?_
          rintro _ s4 ⟨sl, rfl, st4, I4, hs⟩
          have stA := (st1.trans st2).trans (st3.trans st4)
          obtain ⟨⟨Ty, id, hT, hl'⟩, hg⟩ := slice_ok (prog := prog) (A := A) I4 (v1.stp (st2.trans (st3.trans st4))) (v2.stp (st3.trans st4)) (v3.stp st4) hs q
          refine tail_any hT hl' (hg.to ?_) (ops := [.ref sl, o]) rfl
          intro val s5 hpe
          exact PE.after stA hpe
      · (first | exact nosome h | exact nofalse h | cases h)
    · (first | exact nosome h | exact nofalse h | cases h)
  · (first | exact nosome h | exact nofalse h | cases h)
set_option tactic.hygienic true in
theorem se_rev {v : Expr} {a : E} {k : Nat} {p1 p2 p pos : Pos} (hv : SE prog w T base P C A nm env v a) : SE prog w T base P C A nm env (.Subscript v (.Slice none none (some (.UnaryOp .USub (.Constant (.int 1) k p1) p2)) p) pos) (.rev a) := by
  intro ρ H x H' σ s h I Fm
  simp only [evE, e_cst, e_var, e_glob, e_nil, e_cons, e_tup, e_lst, e_lstH, e_dictH, e_and, e_or, e_not, e_neg, e_bin, e_cmp, e_cmp2, e_cmp3, e_ife, e_attr, e_sub, e_slice, e_rev, e_call, e_meth, e_new, e_sup, e_bm, e_bi, e_isi, e_comp, e_bvn] at h
  refine Classical.byContradiction fun hcon => ?_
  split at h
  · rename_i x1 H1 h1
    unfold revOp at h
    split at h
    · rename_i l hl
      split at h
      · rename_i q
        first | (replace h := s3 h; obtain ⟨h1', h2', h3'⟩ := h; subst h1'; cases h2'; (first | exact nosome h3' | exact nofalse h3' | cases h3')) | (replace h := s2 h; obtain ⟨rfl, rfl⟩ := h) | (first | exact nosome h | exact nofalse h | cases h)
        have q2 : l.length ≤ cap := Nat.le_of_ble_eq_true q
        refine hcon ?_
        refine Subscript_ ((hv ρ H x1 H' σ s h1 I Fm).to ?_)
        rintro o s1 ⟨σ1, st1, I1, v1⟩
        show wpAny _ _ (pure Value.none >>= fun l => holding [l] (pure Value.none) >>= fun u => holding [l, u] (eval (.UnaryOp .USub (.Constant (.int 1) k p1) p2) env) >>= fun st => newFields "slice" [l, u, st]) _ _ s1
        refine wpAny_bind (wpAny_pure (wpAny_bind (wpAny_holding (wpAny_pure (wpAny_bind (wpAny_holding ?_))))))
        show wpAny _ _ (mkInt 1 >>= fun v => standAt p2 >>= fun _ => holding [v] (unaryOp .USub v)) _ _ s1
        refine wpAny_bind (wpAny_mkInt (wpAny_bind (wpAny_standAt (wpAny_holding (PySem.P.neg_int ?_)))))
        have I2 : Inv T w base σ1 H' ({ s1 with toks := s1.toks + 1 + 1 } : Shared).heap := I1
        refine (newSlice_ok (s := { s1 with toks := s1.toks + 1 + 1 }) I2).to ?_
        rintro _ s4 ⟨sl, rfl, st4, I4, hs⟩
        have st5 := (Stp.toks σ1 s1 (s1.toks + 1 + 1)).trans st4
        have v4 := v1.stp st5
        obtain ⟨c, items, rfl, ht, hv'⟩ := list_of I4 hl v4
        have hlen : l.length = items.size := by rw [hv'.length, Array.length_toList]
        refine tail_any ht.typeIs F.slot_list_getitem.lookup (ops := [.ref c, .ref sl]) (wpAny_getItem_list_slice ht hs .none .none (.int (-1) _) (by simp) ?_ (by rw [sizeLine_eq]; unfold cap at q2; omega)) rfl
        rw [slicePick_rev]
        exact PE.after (st1.trans st5) (newListAt I4 (by simpa using hv'.reverse))
      · (first | exact nosome h | exact nofalse h | cases h)
    · (first | exact nosome h | exact nofalse h | cases h)
  · (first | exact nosome h | exact nofalse h | cases h)
end
end Mine
set_option linter.unusedSimpArgs false
namespace Mine
open PySem PySem.W PyProof.Rows PySem.MeetsSeq PySem.SeqAt
noncomputable def biVal : Bi → Value
  | .abs => .builtin "abs"
  | .len => .builtin "len"
  | .min => .builtin "min"
  | .max => .builtin "max"
  | .sum => .builtin "sum"
  | .sorted => .builtin "sorted"
  | .tuple => .type "tuple"
  | .list => .type "list"
  | .int => .type "int"
  | .range => .type "range"
noncomputable def tyVal : Ty → Value
  | .int => .type "int"
  | .str => .type "str"
  | .tuple => .type "tuple"
  | .bool => .type "bool"
structure GlobIs (base : Heap) (G : Gt) (T : Tb) (fa : List Addr) (mg mb : Str → Option Value) : Prop where
  g : base.Ns mainGlobals mg
  b : base.Ns builtinsNs mb
  consts : ∀ x v, nfind x G.consts = some v → ∃ val, mg x = some val ∧ VR base [] v val
  fns : ∀ x (f : Nat), nfind x G.fns = some f → ∃ a, fa[f]? = some a ∧ mg x = some (.ref a)
  cls : ∀ x (c : Nat), nfind x G.classes = some c → ∃ a, T.cls[c]? = some a ∧ mg x = some (.ref a)
  bi : ∀ x op, biOf x = some op → mg x = none ∧ mb x = some (biVal op)
  ty : ∀ x op, tyOf x = some op → mg x = none ∧ mb x = some (tyVal op)
  isi : mg s_isinstance = none ∧ mb s_isinstance = some (.builtin "isinstance")
  sup : mg s_super = none ∧ mb s_super = some (.type "super")
noncomputable def GlobOk (base : Heap) (G : Gt) (T : Tb) (fa : List Addr) : Prop := ∃ mg mb, GlobIs base G T fa mg mb
section
variable {prog : Program} {w : World} {T : Tb} {base : Heap} {P : Pg} {C : CallT} {A : Around} {nm : Nm} {env : Env} {s : Shared} {σ : Sg} {ρ : Rho} {H : Hp} {G : Gt}
theorem Inv.lift {h : Heap} (I : Inv T w base σ H h) {v : V} {val : Value} (hv : VR base [] v val) : VR h σ v val :=
  VR.step (fun b o e _ _ => I.stays b o e) ⟨Nat.zero_le _, fun i hi => absurd hi (by simp), fun d r => .inr (I.fresh d r).1⟩ v hv
theorem ns_stays {h : Heap} {a : Addr} {m : Str → Option Value} (hs : ∀ b o, base.get? b = some o → h.get? b = some o) (hm : base.Ns a m) : h.Ns a m := by
  obtain ⟨o, es, ep, ho, r⟩ := hm
  exact ⟨o, es, ep, hs _ _ ho, r⟩
theorem not_debug {x : Str} (hd : strEq x s_debug = false) : (x == ("__debug__" : Str)) = false := by
  rw [beq_eq_false_iff_ne]
  intro q
  rw [show ("__debug__" : Str) = s_debug by decide +kernel] at q
  rw [q, strEq_self] at hd; (first | exact nosome hd | exact nofalse hd | cases hd)
set_option tactic.hygienic true in
theorem se_glob {x : Str} {i : Nat} {v : V} {pos : Pos} {fa : List Addr} (GO : GlobOk base G T fa) (hd : strEq x s_debug = false) (hk : isGlob env.scope x = true) (hx : nfind x G.consts = some v) : SE prog w T base P C A nm env (.Name x pos) (.glob i v) := by
  intro ρ H v' H' σ s h I Fm
  simp only [evE, Option.some.injEq, Prod.mk.injEq, e_cst, e_var, e_glob, e_nil, e_cons, e_tup, e_lst, e_lstH, e_dictH, e_and, e_or, e_not, e_neg, e_bin, e_cmp, e_cmp2, e_cmp3, e_ife, e_attr, e_sub, e_slice, e_rev, e_call, e_meth, e_new, e_sup, e_bm, e_bi, e_isi, e_comp, e_bvn] at h
  obtain ⟨rfl, rfl⟩ := h
  have hk' : env.kindOf x = some .globalImplicit := by
    unfold isGlob at hk
    split at hk
    · rename_i q; exact q
    · (first | exact nosome hk | exact nofalse hk | cases hk)
  obtain ⟨mg, mb, GI⟩ := GO
  obtain ⟨val, h1, h2⟩ := GI.consts _ _ hx
  refine PySem.Calls.Name_function_global Fm.kind hk' ?_ (not_debug hd)
  exact PySem.Calls.loadGlobal_global (ns_stays I.stays (Fm.glob ▸ GI.g)) h1 (PE.of0 I (I.lift h2))
set_option tactic.hygienic true in
theorem glob_kind {x : Str} (hk : isGlob env.scope x = true) : env.kindOf x = some .globalImplicit := by
  unfold isGlob at hk
  split at hk
  · rename_i q; exact q
  · (first | exact nosome hk | exact nofalse hk | cases hk)
theorem load_glob {x : Str} {pos : Pos} {val : Value} {fa : List Addr} {mg mb : Str → Option Value} (GI : GlobIs base G T fa mg mb) (hd : strEq x s_debug = false) (hk : isGlob env.scope x = true) (hx : mg x = some val ∨ (mg x = none ∧ mb x = some val)) (I : Inv T w base σ H s.heap) (Fm : Frm nm env base s.heap σ ρ) :
    Ok prog w A (eval (.Name x pos) env) s fun v s' => v = val ∧ s' = s := by
  refine PySem.Calls.Name_function_global Fm.kind (glob_kind hk) ?_ (not_debug hd)
  rcases hx with hx | ⟨h1, h2⟩
  · exact PySem.Calls.loadGlobal_global (ns_stays I.stays (Fm.glob ▸ GI.g)) hx ⟨rfl, rfl⟩
  · exact PySem.Calls.loadGlobal_builtin (ns_stays I.stays (Fm.glob ▸ GI.g)) h1 (ns_stays I.stays (Fm.blt ▸ GI.b)) h2 ⟨rfl, rfl⟩
theorem truthy_bool {b : Bool} {v : Value} (hv : VR s.heap σ (.bool b) v) : Ok prog w A (truthy v) s fun c s' => c = b ∧ s' = s := by
  (first | exact nosome hv | exact nofalse hv | cases hv)
  exact wpAny_truthy_bool ⟨rfl, rfl⟩
set_option tactic.hygienic true in
theorem se_not {e : Expr} {a : E} {pos : Pos} (he : SE prog w T base P C A nm env e a) : SE prog w T base P C A nm env (.UnaryOp .Not e pos) (.not a) := by
  intro ρ H v H' σ s h I Fm
  simp only [evE, e_cst, e_var, e_glob, e_nil, e_cons, e_tup, e_lst, e_lstH, e_dictH, e_and, e_or, e_not, e_neg, e_bin, e_cmp, e_cmp2, e_cmp3, e_ife, e_attr, e_sub, e_slice, e_rev, e_call, e_meth, e_new, e_sup, e_bm, e_bi, e_isi, e_comp, e_bvn] at h
  split at h
  · rename_i b H1 h1
    first | (replace h := s3 h; obtain ⟨h1', h2', h3'⟩ := h; subst h1'; cases h2'; (first | exact nosome h3' | exact nofalse h3' | cases h3')) | (replace h := s2 h; obtain ⟨rfl, rfl⟩ := h) | (first | exact nosome h | exact nofalse h | cases h)
    refine UnaryOp_ ((he ρ H _ H' σ s h1 I Fm).to ?_)
    rintro val s1 ⟨σ1, st1, I1, v1⟩
    refine not_of ((truthy_bool v1).to ?_)
    rintro c s2 ⟨rfl, rfl⟩
    exact PE.after st1 (PE.of0 I1 rfl)
  · (first | exact nosome h | exact nofalse h | cases h)
set_option tactic.hygienic true in
theorem sb_not {e : Expr} {a : E} {pos : Pos} (he : SB prog w T base P C A nm env e a) : SB prog w T base P C A nm env (.UnaryOp .Not e pos) (.not a) := by
  intro ρ H v H' σ s h I Fm
  simp only [evE, e_cst, e_var, e_glob, e_nil, e_cons, e_tup, e_lst, e_lstH, e_dictH, e_and, e_or, e_not, e_neg, e_bin, e_cmp, e_cmp2, e_cmp3, e_ife, e_attr, e_sub, e_slice, e_rev, e_call, e_meth, e_new, e_sup, e_bm, e_bi, e_isi, e_comp, e_bvn] at h
  split at h
  · rename_i b H1 h1
    first | (replace h := s3 h; obtain ⟨h1', h2', h3'⟩ := h; subst h1'; cases h2'; (first | exact nosome h3' | exact nofalse h3' | cases h3')) | (replace h := s2 h; obtain ⟨rfl, rfl⟩ := h) | (first | exact nosome h | exact nofalse h | cases h)
    refine isTrue_not ((he ρ H _ H' σ s h1 I Fm).to ?_)
    rintro c s1 ⟨rfl, σ1, st1, I1⟩
    exact ⟨rfl, σ1, st1, I1⟩
  · (first | exact nosome h | exact nofalse h | cases h)
theorem sb_plain {e : Expr} {a : E} (hp : ∀ whole, isTrue e env whole = (do let v ← whole; standAt e.pos; holding [v] (truthy v))) (he : SE prog w T base P C A nm env e a) : SB prog w T base P C A nm env e a := by
  intro ρ H v H' σ s h I Fm
  refine isTrue_plain ((he ρ H _ H' σ s h I Fm).to ?_) (hp _)
  rintro val s1 ⟨σ1, st1, I1, v1⟩
  refine (truthy_bool v1).to ?_
  rintro c s2 ⟨rfl, rfl⟩
  exact ⟨rfl, σ1, st1, I1⟩
set_option tactic.hygienic true in
theorem se_neg {e : Expr} {a : E} {pos : Pos} (he : SE prog w T base P C A nm env e a) : SE prog w T base P C A nm env (.UnaryOp .USub e pos) (.neg a) := by
  intro ρ H v H' σ s h I Fm
  simp only [evE, e_cst, e_var, e_glob, e_nil, e_cons, e_tup, e_lst, e_lstH, e_dictH, e_and, e_or, e_not, e_neg, e_bin, e_cmp, e_cmp2, e_cmp3, e_ife, e_attr, e_sub, e_slice, e_rev, e_call, e_meth, e_new, e_sup, e_bm, e_bi, e_isi, e_comp, e_bvn] at h
  split at h
  · rename_i b H1 h1
    first | (replace h := s3 h; obtain ⟨h1', h2', h3'⟩ := h; subst h1'; cases h2'; (first | exact nosome h3' | exact nofalse h3' | cases h3')) | (replace h := s2 h; obtain ⟨rfl, rfl⟩ := h) | (first | exact nosome h | exact nofalse h | cases h)
    refine UnaryOp_ ((he ρ H _ H' σ s h1 I Fm).to ?_)
    rintro val s1 ⟨σ1, st1, I1, v1⟩
    obtain ⟨t, rfl⟩ := v1
    exact PySem.P.neg_int (PE.after st1 (PE.of I1 ⟨_, rfl⟩))
  · (first | exact nosome h | exact nofalse h | cases h)
set_option tactic.hygienic true in
theorem se_ife {t x y : Expr} {a b c : E} {pos : Pos} (ht : SB prog w T base P C A nm env t a) (hx : SE prog w T base P C A nm env x b) (hy : SE prog w T base P C A nm env y c) : SE prog w T base P C A nm env (.IfExp t x y pos) (.ife a b c) := by
  intro ρ H v H' σ s h I Fm
  simp only [evE, e_cst, e_var, e_glob, e_nil, e_cons, e_tup, e_lst, e_lstH, e_dictH, e_and, e_or, e_not, e_neg, e_bin, e_cmp, e_cmp2, e_cmp3, e_ife, e_attr, e_sub, e_slice, e_rev, e_call, e_meth, e_new, e_sup, e_bm, e_bi, e_isi, e_comp, e_bvn] at h
  split at h
  · rename_i H1 h1
    refine IfExp_ ((ht ρ H _ H1 σ s h1 I Fm).to ?_)
    rintro r s1 ⟨rfl, σ1, st1, I1⟩
    exact (hx ρ H1 v H' σ1 s1 h I1 (Fm.stp st1)).to fun _ _ => PE.after st1
  · rename_i H1 h1
    refine IfExp_ ((ht ρ H _ H1 σ s h1 I Fm).to ?_)
    rintro r s1 ⟨rfl, σ1, st1, I1⟩
    exact (hy ρ H1 v H' σ1 s1 h I1 (Fm.stp st1)).to fun _ _ => PE.after st1
  · (first | exact nosome h | exact nofalse h | cases h)
set_option tactic.hygienic true in
theorem sb_ife {t x y : Expr} {a b c : E} {pos : Pos} (ht : SB prog w T base P C A nm env t a) (hx : SB prog w T base P C A nm env x b) (hy : SB prog w T base P C A nm env y c) : SB prog w T base P C A nm env (.IfExp t x y pos) (.ife a b c) := by
  intro ρ H v H' σ s h I Fm
  simp only [evE, e_cst, e_var, e_glob, e_nil, e_cons, e_tup, e_lst, e_lstH, e_dictH, e_and, e_or, e_not, e_neg, e_bin, e_cmp, e_cmp2, e_cmp3, e_ife, e_attr, e_sub, e_slice, e_rev, e_call, e_meth, e_new, e_sup, e_bm, e_bi, e_isi, e_comp, e_bvn] at h
  split at h
  · rename_i H1 h1
    refine isTrue_IfExp ((ht ρ H _ H1 σ s h1 I Fm).to ?_)
    rintro r s1 ⟨rfl, σ1, st1, I1⟩
    exact (hx ρ H1 v H' σ1 s1 h I1 (Fm.stp st1)).to fun _ _ => PB.after st1
  · rename_i H1 h1
    refine isTrue_IfExp ((ht ρ H _ H1 σ s h1 I Fm).to ?_)
    rintro r s1 ⟨rfl, σ1, st1, I1⟩
    exact (hy ρ H1 v H' σ1 s1 h I1 (Fm.stp st1)).to fun _ _ => PB.after st1
  · (first | exact nosome h | exact nofalse h | cases h)
set_option tactic.hygienic true in
theorem se_and {e1 e2 : Expr} {es : List Expr} {a b : E} {pos : Pos} (h1 : SE prog w T base P C A nm env e1 a) (h2 : SE prog w T base P C A nm env (.BoolOp .And (e2 :: es) pos) b) : SE prog w T base P C A nm env (.BoolOp .And (e1 :: e2 :: es) pos) (.and a b) := by
  intro ρ H v H' σ s h I Fm
  simp only [evE, e_cst, e_var, e_glob, e_nil, e_cons, e_tup, e_lst, e_lstH, e_dictH, e_and, e_or, e_not, e_neg, e_bin, e_cmp, e_cmp2, e_cmp3, e_ife, e_attr, e_sub, e_slice, e_rev, e_call, e_meth, e_new, e_sup, e_bm, e_bi, e_isi, e_comp, e_bvn] at h
  split at h
  · rename_i H1 q
    refine BoolOp_and ((h1 ρ H _ H1 σ s q I Fm).to ?_)
    rintro val s1 ⟨σ1, st1, I1, v1⟩
    refine (truthy_bool v1).to ?_
    rintro c s2 ⟨rfl, rfl⟩
    exact (h2 ρ H1 v H' σ1 _ h I1 (Fm.stp st1)).to fun _ _ => PE.after st1
  · rename_i H1 q
    first | (replace h := s3 h; obtain ⟨h1', h2', h3'⟩ := h; subst h1'; cases h2'; (first | exact nosome h3' | exact nofalse h3' | cases h3')) | (replace h := s2 h; obtain ⟨rfl, rfl⟩ := h) | (first | exact nosome h | exact nofalse h | cases h)
    refine BoolOp_and ((h1 ρ H _ _ σ s q I Fm).to ?_)
    rintro val s1 ⟨σ1, st1, I1, v1⟩
    refine (truthy_bool v1).to ?_
    rintro c s2 ⟨rfl, rfl⟩
    exact PE.after st1 (PE.of0 I1 v1)
  · (first | exact nosome h | exact nofalse h | cases h)
set_option tactic.hygienic true in
theorem se_or {e1 e2 : Expr} {es : List Expr} {a b : E} {pos : Pos} (h1 : SE prog w T base P C A nm env e1 a) (h2 : SE prog w T base P C A nm env (.BoolOp .Or (e2 :: es) pos) b) : SE prog w T base P C A nm env (.BoolOp .Or (e1 :: e2 :: es) pos) (.or a b) := by
  intro ρ H v H' σ s h I Fm
  simp only [evE, e_cst, e_var, e_glob, e_nil, e_cons, e_tup, e_lst, e_lstH, e_dictH, e_and, e_or, e_not, e_neg, e_bin, e_cmp, e_cmp2, e_cmp3, e_ife, e_attr, e_sub, e_slice, e_rev, e_call, e_meth, e_new, e_sup, e_bm, e_bi, e_isi, e_comp, e_bvn] at h
  split at h
  · rename_i H1 q
    first | (replace h := s3 h; obtain ⟨h1', h2', h3'⟩ := h; subst h1'; cases h2'; (first | exact nosome h3' | exact nofalse h3' | cases h3')) | (replace h := s2 h; obtain ⟨rfl, rfl⟩ := h) | (first | exact nosome h | exact nofalse h | cases h)
    refine BoolOp_or ((h1 ρ H _ _ σ s q I Fm).to ?_)
    rintro val s1 ⟨σ1, st1, I1, v1⟩
    refine (truthy_bool v1).to ?_
    rintro c s2 ⟨rfl, rfl⟩
    exact PE.after st1 (PE.of0 I1 v1)
  · rename_i H1 q
    refine BoolOp_or ((h1 ρ H _ H1 σ s q I Fm).to ?_)
    rintro val s1 ⟨σ1, st1, I1, v1⟩
    refine (truthy_bool v1).to ?_
    rintro c s2 ⟨rfl, rfl⟩
    exact (h2 ρ H1 v H' σ1 _ h I1 (Fm.stp st1)).to fun _ _ => PE.after st1
  · (first | exact nosome h | exact nofalse h | cases h)
noncomputable def SBs (prog : Program) (w : World) (T : Tb) (base : Heap) (P : Pg) (C : CallT) (A : Around) (nm : Nm) (env : Env) (op : BoolOp) (es : List Expr) (ir : E) : Prop :=
  ∀ ρ H b H' σ s, evE P C ir ρ H = some (.bool b, H') → Inv T w base σ H s.heap → Frm nm env base s.heap σ ρ → Ok prog w A (allTrue op es env) s (PB T w base σ s b H')
theorem sb_row {op : BoolOp} {es : List Expr} {a : E} {pos : Pos} (h : SBs prog w T base P C A nm env op es a) : SB prog w T base P C A nm env (.BoolOp op es pos) a := h
theorem sbs_one {op : BoolOp} {e : Expr} {a : E} (h : SB prog w T base P C A nm env e a) : SBs prog w T base P C A nm env op [e] a := by
  intro ρ H b H' σ s q I Fm
  (first | exact nosome op | exact nofalse op | cases op)
  · refine isTrue_and (pos := e.pos) (whole := pure .none) ((h ρ H b H' σ s q I Fm).to ?_)
    rintro c s1 ⟨rfl, σ1, st1, I1⟩
    (first | exact nosome c | exact nofalse c | cases c)
    · exact ⟨rfl, σ1, st1, I1⟩
    · exact isTrue_and_nil ⟨rfl, σ1, st1, I1⟩
  · refine isTrue_or (pos := e.pos) (whole := pure .none) ((h ρ H b H' σ s q I Fm).to ?_)
    rintro c s1 ⟨rfl, σ1, st1, I1⟩
    (first | exact nosome c | exact nofalse c | cases c)
    · exact isTrue_or_nil ⟨rfl, σ1, st1, I1⟩
    · exact ⟨rfl, σ1, st1, I1⟩
set_option tactic.hygienic true in
theorem sbs_and {e : Expr} {es : List Expr} {a b : E} (h1 : SB prog w T base P C A nm env e a) (h2 : SBs prog w T base P C A nm env .And es b) : SBs prog w T base P C A nm env .And (e :: es) (.and a b) := by
  intro ρ H v H' σ s h I Fm
  simp only [evE, e_cst, e_var, e_glob, e_nil, e_cons, e_tup, e_lst, e_lstH, e_dictH, e_and, e_or, e_not, e_neg, e_bin, e_cmp, e_cmp2, e_cmp3, e_ife, e_attr, e_sub, e_slice, e_rev, e_call, e_meth, e_new, e_sup, e_bm, e_bi, e_isi, e_comp, e_bvn] at h
  split at h
  · rename_i H1 q
    refine isTrue_and (pos := e.pos) (whole := pure .none) ((h1 ρ H _ H1 σ s q I Fm).to ?_)
    rintro c s1 ⟨rfl, σ1, st1, I1⟩
    exact (h2 ρ H1 v H' σ1 _ h I1 (Fm.stp st1)).to fun _ _ => PB.after st1
  · rename_i H1 q
    first | (replace h := s3 h; obtain ⟨h1', h2', h3'⟩ := h; subst h1'; cases h2'; (first | exact nosome h3' | exact nofalse h3' | cases h3')) | (replace h := s2 h; obtain ⟨rfl, rfl⟩ := h) | (first | exact nosome h | exact nofalse h | cases h)
    refine isTrue_and (pos := e.pos) (whole := pure .none) ((h1 ρ H _ _ σ s q I Fm).to ?_)
    rintro c s1 ⟨rfl, σ1, st1, I1⟩
    exact ⟨rfl, σ1, st1, I1⟩
  · (first | exact nosome h | exact nofalse h | cases h)
set_option tactic.hygienic true in
theorem sbs_or {e : Expr} {es : List Expr} {a b : E} (h1 : SB prog w T base P C A nm env e a) (h2 : SBs prog w T base P C A nm env .Or es b) : SBs prog w T base P C A nm env .Or (e :: es) (.or a b) := by
  intro ρ H v H' σ s h I Fm
  simp only [evE, e_cst, e_var, e_glob, e_nil, e_cons, e_tup, e_lst, e_lstH, e_dictH, e_and, e_or, e_not, e_neg, e_bin, e_cmp, e_cmp2, e_cmp3, e_ife, e_attr, e_sub, e_slice, e_rev, e_call, e_meth, e_new, e_sup, e_bm, e_bi, e_isi, e_comp, e_bvn] at h
  split at h
  · rename_i H1 q
    first | (replace h := s3 h; obtain ⟨h1', h2', h3'⟩ := h; subst h1'; cases h2'; (first | exact nosome h3' | exact nofalse h3' | cases h3')) | (replace h := s2 h; obtain ⟨rfl, rfl⟩ := h) | (first | exact nosome h | exact nofalse h | cases h)
    refine isTrue_or (pos := e.pos) (whole := pure .none) ((h1 ρ H _ _ σ s q I Fm).to ?_)
    rintro c s1 ⟨rfl, σ1, st1, I1⟩
    exact ⟨rfl, σ1, st1, I1⟩
  · rename_i H1 q
    refine isTrue_or (pos := e.pos) (whole := pure .none) ((h1 ρ H _ H1 σ s q I Fm).to ?_)
    rintro c s1 ⟨rfl, σ1, st1, I1⟩
    exact (h2 ρ H1 v H' σ1 _ h I1 (Fm.stp st1)).to fun _ _ => PB.after st1
  · (first | exact nosome h | exact nofalse h | cases h)
end
end Mine
set_option linter.unusedSimpArgs false
namespace Mine
open PySem PySem.W PyProof.Rows PySem.MeetsSeq PySem.SeqAt
theorem small_lt {a : Int} (h : small a = true) : a.natAbs < 2 ^ 64 := by
  have : a.natAbs < 18446744073709551616 := Nat.le_of_ble_eq_true h
  exact this
theorem nonneg_le {a : Int} (h : nonneg a = true) : 0 ≤ a := by
  cases a with
  | ofNat n => exact Int.natCast_nonneg n
  | negSucc n => (first | exact nosome h | exact nofalse h | cases h)
theorem log2_small {y : Int} (h : y.natAbs < 2 ^ 64) : y.natAbs.log2 < 9000 := by
  by_cases h0 : y.natAbs = 0
  · rw [h0]; decide +kernel
  · have := (Nat.log2_lt h0).mpr h
    omega
theorem bitAnd_nn {a b : Int} (ha : 0 ≤ a) (hb : 0 ≤ b) : Builtin.bitAnd a b = (a.toNat &&& b.toNat : Nat) := by
  unfold Builtin.bitAnd
  rw [decide_eq_true ha, decide_eq_true hb]
theorem bitOr_nn {a b : Int} (ha : 0 ≤ a) (hb : 0 ≤ b) : Builtin.bitOr a b = (a.toNat ||| b.toNat : Nat) := by
  have nn : ∀ x : Int, Builtin.bitNot (Builtin.bitNot x) = x := fun x => by unfold Builtin.bitNot; omega
  have ng : ∀ x : Int, 0 ≤ x → ¬ 0 ≤ Builtin.bitNot x := fun x h => by unfold Builtin.bitNot; omega
  unfold Builtin.bitOr
  conv => lhs; arg 1; unfold Builtin.bitAnd
  rw [decide_eq_false (ng _ ha), decide_eq_false (ng _ hb)]
  simp only [nn]
theorem rep_foldl (l : Array Value) : ∀ (n : Nat) (acc : Array Value), (List.foldl (fun x1 x2 => x1 ++ x2) acc (List.replicate n l)).toList = acc.toList ++ (List.replicate n l.toList).flatten
  | 0, acc => by simp
  | n + 1, acc => by rw [List.replicate_succ, List.foldl_cons, rep_foldl l n]; simp [List.replicate_succ]
theorem VRs.rep {h : Heap} {σ : Sg} {l : List V} {vs : List Value} (H : VRs h σ l vs) : ∀ n, VRs h σ (Mine.rep n l) (List.replicate n vs).flatten
  | 0 => rfl
  | n + 1 => by
    rw [List.replicate_succ, List.flatten_cons]
    exact H.append (VRs.rep H n)
theorem rmulL (a : Int) (t : Tok) (l : Addr) (items : Array Value) (n : Nat) (dd : Option Addr) (sl : Array (Option Value)) :
    Meets (Builtin.«int.__rmul__» ⟨[.int a t, .ref l], []⟩) (fun _ R s => s.heap.get? l = some { cls := .type "list", dict := dd, data := .seq items n, slots := sl } ∧ R (.ok (.ret Value.notImplemented)) s) :=
  .of_wp fun prog w A R s h => by obtain ⟨hp, g, d, tk, os⟩ := s; obtain ⟨hl, h⟩ := h; wp_walk; exact ⟨_, rfl, h⟩
theorem mulL (l : Addr) (items : Array Value) (n : Nat) (x : Int) (u : Tok) (dd : Option Addr) (sl : Array (Option Value)) (hc0 : ¬(!Builtin.List.listFitsIndex x) = true) (hc1 : ¬items.size * x.toNat > (2 ^ 63 - 1) / 8) (hc2 : ¬Builtin.List.listTooLong (items.size * x.toNat) = true) :
    Meets (Builtin.«list.__mul__» ⟨[.ref l, .int x u], []⟩) (fun _ R s => s.heap.get? l = some { cls := .type "list", dict := dd, data := .seq items n, slots := sl } ∧ R (.ok (.ret (Value.ref s.heap.objs.size))) { s with heap := s.heap.push { cls := Value.type "list", data := Data.seq (List.foldl (fun x1 x2 => x1 ++ x2) #[] (List.replicate (if items.isEmpty = true then 0 else x.toNat) items)) }, toks := s.toks }) :=
  .of_wp fun prog w A R s h => by
    obtain ⟨hp, g, d, tk, os⟩ := s; obtain ⟨hl, h⟩ := h
    have hsz := PySem.AutoListH.joined_fits hc2
    wp_walk; refine wpAny_ite_false (decide_eq_false (Nat.not_lt.mpr hsz)) ?_; wp_walk; exact ⟨_, rfl, h⟩
section
variable {prog : Program} {w : World} {T : Tb} {base : Heap} {P : Pg} {C : CallT} {A : Around} {nm : Nm} {env : Env} {s : Shared} {σ : Sg} {ρ : Rho} {H : Hp}
theorem addList_ok {l b : Addr} {i1 i2 : Array Value} {Q : Value → Shared → Prop} (hl : s.heap.IsList l i1) (hb : s.heap.IsList b i2) (hsz : i1.size + i2.size ≤ sizeLine)
    (h : Q (.ref s.heap.objs.size) { s with heap := s.heap.push { cls := .type "list", data := .seq (i1 ++ i2) } }) : Ok prog w A (binaryOp .Add (.ref l) (.ref b)) s Q := by
  obtain ⟨⟨cls, dd, data, sl⟩, ho, hc, n, hd⟩ := id hl
  obtain ⟨⟨cls2, dd2, data2, sl2⟩, ho2, hc2, n2, hd2⟩ := id hb
  simp only at hc hd hc2 hd2
  subst hc hd hc2 hd2
  exact concat_meets ⟨_, ho, rfl⟩ ⟨_, ho2, rfl⟩ noFill_list_add seq_list_add PySem.F.slot_list_add PySem.F.entry_list_add (PySem.F.args_list_add_2 _ _) (list_addW l b i1 i2 n n2 dd dd2 sl sl2 hsz) ⟨ho, ho2, h⟩
theorem mulList_ok {l : Addr} {i1 : Array Value} {x : Int} {u : Tok} {Q : Value → Shared → Prop} (hl : s.heap.IsList l i1) (hx : 0 ≤ x) (hx2 : x < 2 ^ 24) (hsz : i1.size * x.toNat ≤ cap)
    (h : Q (.ref s.heap.objs.size) { s with heap := s.heap.push { cls := .type "list", data := .seq (List.foldl (fun x1 x2 => x1 ++ x2) #[] (List.replicate (if i1.isEmpty = true then 0 else x.toNat) i1)) } }) : Ok prog w A (binaryOp .Mult (.ref l) (.int x u)) s Q := by
  obtain ⟨⟨cls, dd, data, sl⟩, ho, hc, n, hd⟩ := id hl
  simp only at hc hd
  subst hc hd
  exact wpAny_binaryOp_repeat_ref (T := "list") (U := "int") (by decide) ⟨_, ho, rfl⟩ (fun s' => typeIs_int s' x u) noFill_list_mul F.fills_int_mul F.slot_int_rmul repeat_list F.slot_int_index.lookup
    (call_meets F.slot_int_rmul (typeIs_int s x u) F.entry_int_rmul (F.args_int_rmul_2 _ _) (rmulL x u l i1 n dd sl)
      ⟨ho, rfl, ⟨_, ho, rfl⟩, call_meets F.slot_list_mul ⟨_, ho, rfl⟩ F.entry_list_mul (F.args_list_mul_2 _ _)
        (mulL l i1 n x u dd sl (by simp [Builtin.List.listFitsIndex]; omega) (by unfold cap at hsz; omega) (by unfold cap at hsz; simp [Builtin.List.listTooLong, sizeLine]; omega))
        ⟨ho, h⟩⟩)
theorem addL_ok {x y v : V} {a b : Value} (I : Inv T w base σ H s.heap) (ha : VR s.heap σ x a) (hb : VR s.heap σ y b) (e : addL H x y = some v) : Ok prog w A (binaryOp .Add a b) s (PE T w base σ s v H) := by
  replace e := addL_some e; obtain ⟨l, r, hl, hr, q2, rfl⟩ := e
  obtain ⟨c, i1, rfl, h1, v1⟩ := list_of I hl ha
  obtain ⟨d, i2, rfl, h2, v2⟩ := list_of I hr hb
  refine addList_ok h1 h2 ?_ (newListAt I (by simpa using v1.append v2))
  have e1 : l.length = i1.size := by rw [v1.length, Array.length_toList]
  have e2 : r.length = i2.size := by rw [v2.length, Array.length_toList]
  rw [sizeLine_eq, ← e1, ← e2]
  unfold cap at q2
  omega
set_option tactic.hygienic true in
theorem addS_ok {m n : Str} {v : V} {t u : Tok} (I : Inv T w base σ H s.heap) (e : addS m n = some v) : Ok prog w A (binaryOp .Add (.str m t) (.str n u)) s (PE T w base σ s v H) := by
  replace e := ifO_some e; obtain ⟨q, rfl⟩ := e
  have q2 : m.cps.toList.length + n.cps.toList.length ≤ cap := Nat.le_of_ble_eq_true q
  have ee : ∀ z : Str, z.cps.toList = m.cps.toList ++ n.cps.toList → z = ⟨(m.cps.toList ++ n.cps.toList).toArray⟩ := fun z hz => by
    cases z; simp at hz ⊢; exact Array.toList_inj.mp (by simpa using hz)
  refine PySem.P.add_str ?_
  split
  · rename_i h0
    have h0 : m.cps.size = 0 := by simpa [Str.length] using h0
    have h1 : m.cps.toList = [] := by rw [← List.length_eq_zero_iff, Array.length_toList]; exact h0
    exact PE.of0 I ⟨u, by rw [← ee n (by rw [h1]; rfl)]⟩
  · split
    · rename_i h0
      have h0 : n.cps.size = 0 := by simpa [Str.length] using h0
      have h1 : n.cps.toList = [] := by rw [← List.length_eq_zero_iff, Array.length_toList]; exact h0
      exact PE.of0 I ⟨t, by rw [← ee m (by rw [h1]; simp)]⟩
    · refine ⟨?_, PE.of I ⟨_, by rw [ee (m ++ n) (show (m.cps ++ n.cps).toList = _ by simp)]⟩⟩
      rw [PySem.strLen_append, sizeLine_eq]
      simp only [Array.length_toList] at q2
      unfold cap at q2
      simp only [Str.length]
      omega
theorem addV_ok {x y v : V} {a b : Value} (I : Inv T w base σ H s.heap) (ha : VR s.heap σ x a) (hb : VR s.heap σ y b) (e : addV H x y = some v) : Ok prog w A (binaryOp .Add a b) s (PE T w base σ s v H) := by
  cases x <;> try exact addL_ok I ha hb e
  · replace e := int1_some e; obtain ⟨n, rfl, e⟩ := e
    obtain ⟨_, rfl⟩ := ha; obtain ⟨_, rfl⟩ := hb; (first | (replace e := s3 e; obtain ⟨h1', h2', h3'⟩ := e; subst h1'; cases h2'; (first | exact nosome h3' | exact nofalse h3' | cases h3')) | (replace e := s2 e; obtain ⟨rfl, rfl⟩ := e) | (first | exact nosome e | exact nofalse e | cases e)); exact PySem.P.add_int (PE.of I ⟨_, rfl⟩)
  · replace e := str1_some e; obtain ⟨n, rfl, e⟩ := e
    obtain ⟨t, rfl⟩ := ha; obtain ⟨u, rfl⟩ := hb
    exact addS_ok I e
set_option tactic.hygienic true in
theorem mulV_ok {x y v : V} {a b : Value} (I : Inv T w base σ H s.heap) (ha : VR s.heap σ x a) (hb : VR s.heap σ y b) (e : mulV x y = some v) : Ok prog w A (binaryOp .Mult a b) s (PE T w base σ s v H) := by
  cases x <;> try (first | exact nosome e | exact nofalse e | cases e)
  · rename_i m
    replace e := int1_some e; obtain ⟨n, rfl, e⟩ := e
    replace e := ifO_some e; obtain ⟨q, rfl⟩ := e
    obtain ⟨_, rfl⟩ := ha; obtain ⟨_, rfl⟩ := hb
    rw [Bool.and_eq_true] at q
    have q2 := small_lt q.2
    exact PySem.P.mul_int (PE.of I ⟨_, rfl⟩) (PySem.IntMulOk.of_right (intBits_le q2))
  · rename_i l
    replace e := int1_some e; obtain ⟨n, rfl, e⟩ := e
    replace e := ifO_some e; obtain ⟨q, rfl⟩ := e
    obtain ⟨c, i1, rfl, h1, _, v1⟩ := ha
    obtain ⟨_, rfl⟩ := hb
    have e1 : l.length = i1.size := by rw [v1.length, Array.length_toList]
    rw [Bool.and_eq_true, Bool.and_eq_true] at q
    have q1 : l.length * n.toNat ≤ cap := Nat.le_of_ble_eq_true q.2
    have q2 : n.toNat ≤ cap := Nat.le_of_ble_eq_true q.1.2
    have q3 := nonneg_le q.1.1
    refine mulList_ok h1 q3 (by unfold cap at q2; omega) (by rw [← e1]; exact q1) (newListAt I ?_)
    rw [rep_foldl]
    have key : (#[] : Array Value).toList ++ (List.replicate (if i1.isEmpty = true then 0 else n.toNat) i1.toList).flatten = (List.replicate n.toNat i1.toList).flatten := by
      split
      · rename_i z
        have z : i1.toList = [] := by simpa using z
        rw [z]
        simp
      · simp
    rw [key]
    exact v1.rep n.toNat
theorem bin_ok {op : Operator} {x y v : V} {a b : Value} (I : Inv T w base σ H s.heap) (ha : VR s.heap σ x a) (hb : VR s.heap σ y b) (e : binop H op x y = some v) : Ok prog w A (binaryOp op a b) s (PE T w base σ s v H) := by
  (first | exact nosome op | exact nofalse op | cases op)
  case Add => exact addV_ok I ha hb e
  case Mult => exact mulV_ok I ha hb e
  all_goals try (first | exact nosome e | exact nofalse e | cases e)
  all_goals (replace e := ints2_some e; obtain ⟨m, n, rfl, rfl, e⟩ := e; obtain ⟨_, rfl⟩ := ha; obtain ⟨_, rfl⟩ := hb)
  case Sub => cases e; exact PySem.P.sub_int (PE.of I ⟨_, rfl⟩)
  all_goals (replace e := ifO_some e; obtain ⟨q, rfl⟩ := e; try simp only [Bool.and_eq_true, Bool.not_eq_true'] at q)
  case Mod =>
    have q3 : n ≠ 0 := fun z => by rw [z] at q; exact absurd q (by decide)
    exact mod_int' q3 (PE.of I ⟨_, rfl⟩)
  case Pow =>
    have q2 : n.toNat ≤ 1000 := Nat.le_of_ble_eq_true q.2
    exact pow_int_small (nonneg_le q.1.2) (by omega) (small_lt q.1.1) (PE.of I ⟨_, rfl⟩)
  case LShift =>
    have q2 : n.toNat ≤ 1000 := Nat.le_of_ble_eq_true q.2
    exact lshift_int_small (nonneg_le q.1.2) (by omega) (small_lt q.1.1) (PE.of I ⟨_, rfl⟩)
end
end Mine
set_option linter.unusedSimpArgs false
namespace Mine
open PySem PySem.W PyProof.Rows PySem.MeetsSeq PySem.SeqAt
section
variable {prog : Program} {w : World} {T : Tb} {base : Heap} {P : Pg} {C : CallT} {A : Around} {nm : Nm} {env : Env} {s : Shared} {σ : Sg} {ρ : Rho} {H : Hp}
set_option tactic.hygienic true in
theorem se_bin {op : Operator} {l r : Expr} {a b : E} {pos : Pos} (hl : SE prog w T base P C A nm env l a) (hr : SE prog w T base P C A nm env r b) : SE prog w T base P C A nm env (.BinOp l op r pos) (.bin op a b) := by
  intro ρ H x H' σ s h I Fm
  simp only [evE, e_cst, e_var, e_glob, e_nil, e_cons, e_tup, e_lst, e_lstH, e_dictH, e_and, e_or, e_not, e_neg, e_bin, e_cmp, e_cmp2, e_cmp3, e_ife, e_attr, e_sub, e_slice, e_rev, e_call, e_meth, e_new, e_sup, e_bm, e_bi, e_isi, e_comp, e_bvn] at h
  split at h
  · rename_i x1 H1 h1
    split at h
    · rename_i y H2 h2
      cases q : binop H2 op x1 y with
      | none => rw [q] at h; (first | exact nosome h | exact nofalse h | cases h)
      | some z =>
        rw [q] at h; (first | exact nosome h | exact nofalse h | cases h)
        refine wpAny_BinOp ((hl ρ H x1 H1 σ s h1 I Fm).to ?_)
        rintro o s1 ⟨σ1, st1, I1, v1⟩
        refine (hr ρ H1 y H' σ1 s1 h2 I1 (Fm.stp st1)).to ?_
        rintro iv s2 ⟨σ2, st2, I2, v2⟩
        exact (bin_ok I2 (v1.stp st2) v2 q).to fun _ _ => PE.after (st1.trans st2)
    · (first | exact nosome h | exact nofalse h | cases h)
  · (first | exact nosome h | exact nofalse h | cases h)
theorem newListHAt {l : List V} {items : Array Value} (I : Inv T w base σ H s.heap) (hv : VRs s.heap σ l items.toList) : PE T w base σ s (.ref H.length) (H ++ [.list l]) (.ref s.heap.objs.size) { s with heap := s.heap.push { cls := .type "list", data := .seq items } } := by
  have g := push_get s.heap ({ cls := .type "list", data := .seq items } : Obj)
  have e0 : SExt σ (σ ++ [some (s.heap.objs.size, s.heap.objs.size)]) s.heap := by
    refine ⟨by simp, fun i hi => .inl ?_, fun b r => ?_⟩
    · rw [List.getElem?_append_left hi]
    · rcases rng_snoc.mp r with q | ⟨y, q⟩
      · exact .inl q
      · cases q; exact .inr (fresh_none _)
  obtain ⟨J, e⟩ := I.add (h' := s.heap.push { cls := .type "list", data := .seq items }) (x := s.heap.objs.size) (d := s.heap.objs.size) (o := .list l) g (fresh_none _) I.newBig
    ⟨_, items, rfl, ⟨0, Heap.get?_push_size _ rfl⟩, VRs.step (fun b o e _ _ => g b o e) e0 _ hv⟩
  refine ⟨_, ⟨fun b o e _ => g b o e, e, rfl, rfl, rfl⟩, J, by simp [I.len], s.heap.objs.size, rfl, fun p hp => ?_⟩
  rw [I.len] at hp
  simp at hp
  rw [← hp]
theorem cmp_all {op : CmpOp} {x y : V} {a b : Value} {r : Bool} (hu : A.units + 20 < cLine) (I : Inv T w base σ H s.heap) (ha : VR s.heap σ x a) (hb : VR s.heap σ y b) (e : cmpop H op x y = some r) : Ok prog w A (compareOp op a b) s (Ans s r) :=
  cmp_ok (by omega) I ha hb e fun i l hl hy hk => contains_ok hu I hl (hy ▸ hb) hk ha
noncomputable def notSet : Expr → Bool
  | .Set .. => false
  | _ => true
theorem noMarks {op : CmpOp} {e : Expr} (h : notSet e = true) : behindInMarks op e = false := by
  cases e <;> first | rfl | (first | exact nosome h | exact nofalse h | cases h)
theorem Ans.pe {r : Bool} {v : Value} {s' : Shared} (I : Inv T w base σ H s.heap) (h : Ans s r v s') : PE T w base σ s (.bool r) H v s' := by
  obtain ⟨rfl, t, rfl⟩ := h
  exact PE.of I rfl
set_option tactic.hygienic true in
theorem se_cmp {op : CmpOp} {l r : Expr} {a b : E} {pos : Pos} (hu : A.units + 20 < cLine) (hs : notSet r = true) (hl : SE prog w T base P C A nm env l a) (hr : SE prog w T base P C A nm env r b) : SE prog w T base P C A nm env (.Compare l [op] [r] pos) (.cmp op a b) := by
  intro ρ H x H' σ s h I Fm
  simp only [evE, e_cst, e_var, e_glob, e_nil, e_cons, e_tup, e_lst, e_lstH, e_dictH, e_and, e_or, e_not, e_neg, e_bin, e_cmp, e_cmp2, e_cmp3, e_ife, e_attr, e_sub, e_slice, e_rev, e_call, e_meth, e_new, e_sup, e_bm, e_bi, e_isi, e_comp, e_bvn] at h
  refine Classical.byContradiction fun hcon => ?_
  split at h
  · rename_i x1 H1 h1
    split at h
    · rename_i y H2 h2
      cases q : cmpop H2 op x1 y with
      | none => rw [q] at h; (first | exact nosome h | exact nofalse h | cases h)
      | some z =>
        rw [q] at h; (first | exact nosome h | exact nofalse h | cases h)
        refine hcon ?_
        refine wpAny_Compare1 ((hl ρ H x1 H1 σ s h1 I Fm).to ?_) (noMarks hs)
        rintro o s1 ⟨σ1, st1, I1, v1⟩
        refine (hr ρ H1 y H' σ1 s1 h2 I1 (Fm.stp st1)).to ?_
        rintro iv s2 ⟨σ2, st2, I2, v2⟩
        exact (cmp_all hu I2 (v1.stp st2) v2 q).to fun _ _ h => PE.after (st1.trans st2) (h.pe I2)
    · (first | exact nosome h | exact nofalse h | cases h)
  · (first | exact nosome h | exact nofalse h | cases h)
set_option tactic.hygienic true in
theorem se_cmp2 {o1 o2 : CmpOp} {l r1 r2 : Expr} {a b c : E} {pos : Pos} (hu : A.units + 20 < cLine) (hs : notSet r2 = true) (hl : SE prog w T base P C A nm env l a) (hr1 : SE prog w T base P C A nm env r1 b) (hr2 : SE prog w T base P C A nm env r2 c) : SE prog w T base P C A nm env (.Compare l [o1, o2] [r1, r2] pos) (.cmp2 o1 o2 a b c) := by
  intro ρ H x H' σ s h I Fm
  simp only [evE, e_cst, e_var, e_glob, e_nil, e_cons, e_tup, e_lst, e_lstH, e_dictH, e_and, e_or, e_not, e_neg, e_bin, e_cmp, e_cmp2, e_cmp3, e_ife, e_attr, e_sub, e_slice, e_rev, e_call, e_meth, e_new, e_sup, e_bm, e_bi, e_isi, e_comp, e_bvn] at h
  refine Classical.byContradiction fun hcon => ?_
  split at h
  · rename_i x1 H1 h1
    split at h
    · rename_i y H2 h2
      refine hcon ?_
      refine Compare_chain ((hl ρ H x1 H1 σ s h1 I Fm).to ?_) (by show lastMarks [o2] [r2] = false; exact noMarks hs)
      rintro o s1 ⟨σ1, st1, I1, v1⟩
      refine chain_link ((hr1 ρ H1 y H2 σ1 s1 h2 I1 (Fm.stp st1)).to ?_)
      rintro iv s2 ⟨σ2, st2, I2, v2⟩
      split at h
      · rename_i q
        refine (cmp_all hu I2 (v1.stp st2) v2 q).to ?_
        rintro _ _ ⟨rfl, t, rfl⟩
        refine wpAny_truthy_bool ?_
        split at h
        · rename_i z H3 h3
          cases q2 : cmpop H3 o2 y z with
          | none => rw [q2] at h; (first | exact nosome h | exact nofalse h | cases h)
          | some u =>
            rw [q2] at h; (first | exact nosome h | exact nofalse h | cases h)
            have st3 := (st1.trans st2).trans (Stp.toks σ2 s2 t)
            refine chain_last ((hr2 ρ H2 z H' σ2 { s2 with toks := t } h3 I2 (Fm.stp st3)).to ?_)
            rintro cv s4 ⟨σ4, st4, I4, v4⟩
            exact (cmp_all hu I4 ((VR.stp (Stp.toks σ2 s2 t) v2).stp st4) v4 q2).to fun _ _ h => PE.after (st3.trans st4) (h.pe I4)
        · (first | exact nosome h | exact nofalse h | cases h)
      · rename_i q
        first | (replace h := s3 h; obtain ⟨h1', h2', h3'⟩ := h; subst h1'; cases h2'; (first | exact nosome h3' | exact nofalse h3' | cases h3')) | (replace h := s2 h; obtain ⟨rfl, rfl⟩ := h) | (first | exact nosome h | exact nofalse h | cases h)
        refine (cmp_all hu I2 (v1.stp st2) v2 q).to ?_
        rintro _ _ ⟨rfl, t, rfl⟩
        exact wpAny_truthy_bool (PE.after (st1.trans st2) (PE.of I2 rfl))
      · (first | exact nosome h | exact nofalse h | cases h)
    · (first | exact nosome h | exact nofalse h | cases h)
  · (first | exact nosome h | exact nofalse h | cases h)
set_option tactic.hygienic true in
theorem sb_cmp2 {o1 o2 : CmpOp} {l r1 r2 : Expr} {a b c : E} {pos : Pos} (hu : A.units + 20 < cLine) (hs : notSet r2 = true) (hl : SE prog w T base P C A nm env l a) (hr1 : SE prog w T base P C A nm env r1 b) (hr2 : SE prog w T base P C A nm env r2 c) : SB prog w T base P C A nm env (.Compare l [o1, o2] [r1, r2] pos) (.cmp2 o1 o2 a b c) := by
  intro ρ H x H' σ s h I Fm
  simp only [evE, e_cst, e_var, e_glob, e_nil, e_cons, e_tup, e_lst, e_lstH, e_dictH, e_and, e_or, e_not, e_neg, e_bin, e_cmp, e_cmp2, e_cmp3, e_ife, e_attr, e_sub, e_slice, e_rev, e_call, e_meth, e_new, e_sup, e_bm, e_bi, e_isi, e_comp, e_bvn] at h
  refine Classical.byContradiction fun hcon => ?_
  split at h
  · rename_i x1 H1 h1
    split at h
    · rename_i y H2 h2
      refine hcon ?_
      refine isTrue_chain ((hl ρ H x1 H1 σ s h1 I Fm).to ?_) (by show lastMarks [o2] [r2] = false; exact noMarks hs)
      rintro o s1 ⟨σ1, st1, I1, v1⟩
      refine test_link ((hr1 ρ H1 y H2 σ1 s1 h2 I1 (Fm.stp st1)).to ?_)
      rintro iv s2 ⟨σ2, st2, I2, v2⟩
      split at h
      · rename_i q
        refine (cmp_all hu I2 (v1.stp st2) v2 q).to ?_
        rintro _ _ ⟨rfl, t, rfl⟩
        refine wpAny_truthy_bool ?_
        split at h
        · rename_i z H3 h3
          cases q2 : cmpop H3 o2 y z with
          | none => rw [q2] at h; (first | exact nosome h | exact nofalse h | cases h)
          | some u =>
            rw [q2] at h; (first | exact nosome h | exact nofalse h | cases h)
            have st3 := (st1.trans st2).trans (Stp.toks σ2 s2 t)
            refine test_last ((hr2 ρ H2 z H' σ2 { s2 with toks := t } h3 I2 (Fm.stp st3)).to ?_)
            rintro cv s4 ⟨σ4, st4, I4, v4⟩
            refine (cmp_all hu I4 ((VR.stp (Stp.toks σ2 s2 t) v2).stp st4) v4 q2).to ?_
            rintro _ _ ⟨rfl, t', rfl⟩
            exact wpAny_truthy_bool ⟨rfl, σ4, (st3.trans st4).trans (Stp.toks σ4 s4 t'), I4⟩
        · (first | exact nosome h | exact nofalse h | cases h)
      · rename_i q
        first | (replace h := s3 h; obtain ⟨h1', h2', h3'⟩ := h; subst h1'; cases h2'; (first | exact nosome h3' | exact nofalse h3' | cases h3')) | (replace h := s2 h; obtain ⟨rfl, rfl⟩ := h) | (first | exact nosome h | exact nofalse h | cases h)
        refine (cmp_all hu I2 (v1.stp st2) v2 q).to ?_
        rintro _ _ ⟨rfl, t, rfl⟩
        exact wpAny_truthy_bool ⟨rfl, σ2, (st1.trans st2).trans (Stp.toks σ2 s2 t), I2⟩
      · (first | exact nosome h | exact nofalse h | cases h)
    · (first | exact nosome h | exact nofalse h | cases h)
  · (first | exact nosome h | exact nofalse h | cases h)
set_option tactic.hygienic true in
theorem se_cmp3 {o1 o2 o3 : CmpOp} {l r1 r2 r3 : Expr} {a b c d : E} {pos : Pos} (hu : A.units + 20 < cLine) (hs : notSet r3 = true) (hl : SE prog w T base P C A nm env l a) (hr1 : SE prog w T base P C A nm env r1 b) (hr2 : SE prog w T base P C A nm env r2 c) (hr3 : SE prog w T base P C A nm env r3 d) : SE prog w T base P C A nm env (.Compare l [o1, o2, o3] [r1, r2, r3] pos) (.cmp3 o1 o2 o3 a b c d) := by
  intro ρ H x H' σ s h I Fm
  simp only [evE, e_cst, e_var, e_glob, e_nil, e_cons, e_tup, e_lst, e_lstH, e_dictH, e_and, e_or, e_not, e_neg, e_bin, e_cmp, e_cmp2, e_cmp3, e_ife, e_attr, e_sub, e_slice, e_rev, e_call, e_meth, e_new, e_sup, e_bm, e_bi, e_isi, e_comp, e_bvn] at h
  refine Classical.byContradiction fun hcon => ?_
  split at h
  · rename_i x1 H1 h1
    split at h
    · rename_i y H2 h2
      refine hcon ?_
      refine Compare_chain ((hl ρ H x1 H1 σ s h1 I Fm).to ?_) (by show lastMarks [o3] [r3] = false; exact noMarks hs)
      rintro o s1 ⟨σ1, st1, I1, v1⟩
      refine chain_link ((hr1 ρ H1 y H2 σ1 s1 h2 I1 (Fm.stp st1)).to ?_)
      rintro iv s2 ⟨σ2, st2, I2, v2⟩
      split at h
      · rename_i q
        refine (cmp_all hu I2 (v1.stp st2) v2 q).to ?_
        rintro _ _ ⟨rfl, t, rfl⟩
        refine wpAny_truthy_bool ?_
        split at h
        · rename_i z H3 h3
          have st3 := (st1.trans st2).trans (Stp.toks σ2 s2 t)
          refine chain_link ((hr2 ρ H2 z H3 σ2 { s2 with toks := t } h3 I2 (Fm.stp st3)).to ?_)
          rintro cv s4 ⟨σ4, st4, I4, v4⟩
          split at h
          · rename_i q2
            refine (cmp_all hu I4 ((VR.stp (Stp.toks σ2 s2 t) v2).stp st4) v4 q2).to ?_
            rintro _ _ ⟨rfl, t', rfl⟩
            refine wpAny_truthy_bool ?_
            split at h
            · rename_i u H5 h5
              cases q3 : cmpop H5 o3 z u with
              | none => rw [q3] at h; (first | exact nosome h | exact nofalse h | cases h)
              | some k =>
                rw [q3] at h; (first | exact nosome h | exact nofalse h | cases h)
                have st5 := (st3.trans st4).trans (Stp.toks σ4 s4 t')
                refine chain_last ((hr3 ρ H3 u H' σ4 { s4 with toks := t' } h5 I4 (Fm.stp st5)).to ?_)
                rintro dv s6 ⟨σ6, st6, I6, v6⟩
                exact (cmp_all hu I6 ((VR.stp (Stp.toks σ4 s4 t') v4).stp st6) v6 q3).to fun _ _ h => PE.after (st5.trans st6) (h.pe I6)
            · (first | exact nosome h | exact nofalse h | cases h)
          · rename_i q2
            first | (replace h := s3 h; obtain ⟨h1', h2', h3'⟩ := h; subst h1'; cases h2'; (first | exact nosome h3' | exact nofalse h3' | cases h3')) | (replace h := s2 h; obtain ⟨rfl, rfl⟩ := h) | (first | exact nosome h | exact nofalse h | cases h)
            refine (cmp_all hu I4 ((VR.stp (Stp.toks σ2 s2 t) v2).stp st4) v4 q2).to ?_
            rintro _ _ ⟨rfl, t', rfl⟩
            exact wpAny_truthy_bool (PE.after (st3.trans st4) (PE.of I4 rfl))
          · (first | exact nosome h | exact nofalse h | cases h)
        · (first | exact nosome h | exact nofalse h | cases h)
      · rename_i q
        first | (replace h := s3 h; obtain ⟨h1', h2', h3'⟩ := h; subst h1'; cases h2'; (first | exact nosome h3' | exact nofalse h3' | cases h3')) | (replace h := s2 h; obtain ⟨rfl, rfl⟩ := h) | (first | exact nosome h | exact nofalse h | cases h)
        refine (cmp_all hu I2 (v1.stp st2) v2 q).to ?_
        rintro _ _ ⟨rfl, t, rfl⟩
        exact wpAny_truthy_bool (PE.after (st1.trans st2) (PE.of I2 rfl))
      · (first | exact nosome h | exact nofalse h | cases h)
    · (first | exact nosome h | exact nofalse h | cases h)
  · (first | exact nosome h | exact nofalse h | cases h)
set_option tactic.hygienic true in
theorem sb_cmp3 {o1 o2 o3 : CmpOp} {l r1 r2 r3 : Expr} {a b c d : E} {pos : Pos} (hu : A.units + 20 < cLine) (hs : notSet r3 = true) (hl : SE prog w T base P C A nm env l a) (hr1 : SE prog w T base P C A nm env r1 b) (hr2 : SE prog w T base P C A nm env r2 c) (hr3 : SE prog w T base P C A nm env r3 d) : SB prog w T base P C A nm env (.Compare l [o1, o2, o3] [r1, r2, r3] pos) (.cmp3 o1 o2 o3 a b c d) := by
  intro ρ H x H' σ s h I Fm
  simp only [evE, e_cst, e_var, e_glob, e_nil, e_cons, e_tup, e_lst, e_lstH, e_dictH, e_and, e_or, e_not, e_neg, e_bin, e_cmp, e_cmp2, e_cmp3, e_ife, e_attr, e_sub, e_slice, e_rev, e_call, e_meth, e_new, e_sup, e_bm, e_bi, e_isi, e_comp, e_bvn] at h
  refine Classical.byContradiction fun hcon => ?_
  split at h
  · rename_i x1 H1 h1
    split at h
    · rename_i y H2 h2
      refine hcon ?_
      refine isTrue_chain ((hl ρ H x1 H1 σ s h1 I Fm).to ?_) (by show lastMarks [o3] [r3] = false; exact noMarks hs)
      rintro o s1 ⟨σ1, st1, I1, v1⟩
      refine test_link ((hr1 ρ H1 y H2 σ1 s1 h2 I1 (Fm.stp st1)).to ?_)
      rintro iv s2 ⟨σ2, st2, I2, v2⟩
      split at h
      · rename_i q
        refine (cmp_all hu I2 (v1.stp st2) v2 q).to ?_
        rintro _ _ ⟨rfl, t, rfl⟩
        refine wpAny_truthy_bool ?_
        split at h
        · rename_i z H3 h3
          have st3 := (st1.trans st2).trans (Stp.toks σ2 s2 t)
          refine test_link ((hr2 ρ H2 z H3 σ2 { s2 with toks := t } h3 I2 (Fm.stp st3)).to ?_)
          rintro cv s4 ⟨σ4, st4, I4, v4⟩
          split at h
          · rename_i q2
            refine (cmp_all hu I4 ((VR.stp (Stp.toks σ2 s2 t) v2).stp st4) v4 q2).to ?_
            rintro _ _ ⟨rfl, t', rfl⟩
            refine wpAny_truthy_bool ?_
            split at h
            · rename_i u H5 h5
              cases q3 : cmpop H5 o3 z u with
              | none => rw [q3] at h; (first | exact nosome h | exact nofalse h | cases h)
              | some k =>
                rw [q3] at h; (first | exact nosome h | exact nofalse h | cases h)
                have st5 := (st3.trans st4).trans (Stp.toks σ4 s4 t')
                refine test_last ((hr3 ρ H3 u H' σ4 { s4 with toks := t' } h5 I4 (Fm.stp st5)).to ?_)
                rintro dv s6 ⟨σ6, st6, I6, v6⟩
                refine (cmp_all hu I6 ((VR.stp (Stp.toks σ4 s4 t') v4).stp st6) v6 q3).to ?_
                rintro _ _ ⟨rfl, t2, rfl⟩
                exact wpAny_truthy_bool ⟨rfl, σ6, (st5.trans st6).trans (Stp.toks σ6 s6 t2), I6⟩
            · (first | exact nosome h | exact nofalse h | cases h)
          · rename_i q2
            first | (replace h := s3 h; obtain ⟨h1', h2', h3'⟩ := h; subst h1'; cases h2'; (first | exact nosome h3' | exact nofalse h3' | cases h3')) | (replace h := s2 h; obtain ⟨rfl, rfl⟩ := h) | (first | exact nosome h | exact nofalse h | cases h)
            refine (cmp_all hu I4 ((VR.stp (Stp.toks σ2 s2 t) v2).stp st4) v4 q2).to ?_
            rintro _ _ ⟨rfl, t', rfl⟩
            exact wpAny_truthy_bool ⟨rfl, σ4, (st3.trans st4).trans (Stp.toks σ4 s4 t'), I4⟩
          · (first | exact nosome h | exact nofalse h | cases h)
        · (first | exact nosome h | exact nofalse h | cases h)
      · rename_i q
        first | (replace h := s3 h; obtain ⟨h1', h2', h3'⟩ := h; subst h1'; cases h2'; (first | exact nosome h3' | exact nofalse h3' | cases h3')) | (replace h := s2 h; obtain ⟨rfl, rfl⟩ := h) | (first | exact nosome h | exact nofalse h | cases h)
        refine (cmp_all hu I2 (v1.stp st2) v2 q).to ?_
        rintro _ _ ⟨rfl, t, rfl⟩
        exact wpAny_truthy_bool ⟨rfl, σ2, (st1.trans st2).trans (Stp.toks σ2 s2 t), I2⟩
      · (first | exact nosome h | exact nofalse h | cases h)
    · (first | exact nosome h | exact nofalse h | cases h)
  · (first | exact nosome h | exact nofalse h | cases h)
end
end Mine
set_option linter.unusedSimpArgs false
namespace Mine
open PySem PySem.W PyProof.Rows PySem.MeetsSeq PySem.SeqAt
noncomputable def Bud (n : Nat) (A : Around) : Prop := A.units + 20 * n + 60 < cLine ∧ A.depth + 4 * n + 8 < recursionLimit ∧ A.handled = none
noncomputable def BudB (n : Nat) (A : Around) : Prop := A.units + 20 * n + 70 < cLine ∧ A.depth + 4 * n + 10 < recursionLimit ∧ A.handled = none
theorem BudB.bud {n : Nat} {A : Around} (h : BudB n A) : Bud n A := by
  have h1 := h.1; have h2 := h.2.1
  exact ⟨by omega, by omega, h.2.2⟩
theorem BudB.u {n : Nat} {A : Around} (h : BudB n A) : A.units + 20 < cLine := by have := h.1; omega
theorem Bud.u {n : Nat} {A : Around} (h : Bud n A) : A.units + 20 < cLine := by have := h.1; omega
structure Kc (K : Frag) (T : Tb) (P : Pg) (fa : List Addr) (base : Heap) : Prop where
  X : K.In base
  cls : ∀ (c : Nat) (C : Addr), T.cls[c]? = some C → (plainGet K C default = true ∧ hasDictIn K C = true ∧ plainOver K C = true) ∧ findIn K (.ref C) "__setattr__" = some (some (.builtin "object.__setattr__"))
  none : ∀ (c : Nat) (C : Addr) (x : Nat) (s : Str), T.cls[c]? = some C → T.names[x]? = some s → P.meth c x = none → findIn K (.ref C) s = some none
  meth : ∀ (c : Nat) (C : Addr) (x : Nat) (s : Str) (f : Nat), T.cls[c]? = some C → T.names[x]? = some s → P.meth c x = some f → ∃ a, fa[f]? = some a ∧ findIn K (.ref C) s = some (some (.ref a))
  fns : ∀ (f : Nat) (a : Addr), fa[f]? = some a → isFn K (.ref a) = true ∧ keepIn K (.ref a) = true
  ini : ∀ (c : Nat) (C : Addr) (f : Nat), T.cls[c]? = some C → P.ini[c]? = some f → ∃ a, fa[f]? = some a ∧ findIn K (.ref C) "__init__" = some (some (.ref a)) ∧ makesIn K C = true ∧ keepIn K (.ref C) = true
  str : ∀ (i j : Nat) (s : Str), T.names[i]? = some s → T.names[j]? = some s → i = j
noncomputable def CO (prog : Program) (w : World) (T : Tb) (base : Heap) (fa : List Addr) (n : Nat) (C : CallT) : Prop :=
  ∀ A, Bud n A → ∀ (f : Nat) (a : Addr) l H v H' σ s vals, fa[f]? = some a → C f l H = some (v, H') → Inv T w base σ H s.heap → VRs s.heap σ l vals →
    codeAny (model prog w) A (.call (.ref a) ⟨vals, []⟩) (fun r s' => ∃ val, r = .ok (.ret val) ∧ PE T w base σ s v H' val s') s
section
variable {prog : Program} {w : World} {T : Tb} {base : Heap} {P : Pg} {C : CallT} {A : Around} {nm : Nm} {env : Env} {s : Shared} {σ : Sg} {ρ : Rho} {H : Hp} {K : Frag} {fa : List Addr} {n : Nat}
theorem CO.call (hC : CO prog w T base fa n C) (hb : Bud n A) {f : Nat} {a : Addr} {l : List V} {v : V} {H' : Hp} {vals : List Value} (ha : fa[f]? = some a) (e : C f l H = some (v, H')) (I : Inv T w base σ H s.heap) (hv : VRs s.heap σ l vals) :
    Ok prog w A (call (.ref a) vals) s (PE T w base σ s v H') := by
  refine wpAny_call (codeAny_mono (hC A hb f a l H v H' σ s vals ha e I hv) ?_)
  rintro r s' ⟨val, rfl, h⟩
  exact h
theorem plainGet_any {K : Frag} {C : Addr} {x y : Str} (h : plainGet K C x = true) : plainGet K C y = true := h
theorem isStr_iff {v : Value} {s x : Str} {t : Tok} (h : v = .str s t) : v.isStr x = (s == x) := by subst h; rfl
theorem getL_of {names : List Str} {h : Heap} (hn : ∀ (i j : Nat) (s : Str), names[i]? = some s → names[j]? = some s → i = j) {x : Nat} {sx : Str} (hx : names[x]? = some sx) : ∀ {l : List (Nat × V)} {es : List DictEntry}, AR names h σ l es →
    match alook x l with
    | some v => ∃ val, getL sx es = some (some val) ∧ VR h σ v val
    | none => getL sx es = some none
  | [], es, H => by rw [show es = [] from H]; rfl
  | p :: l, es, H => by
    obtain ⟨e, r, s, t, rfl, hs, hk, hv, hl⟩ := H
    have ih := getL_of hn hx hl
    unfold alook
    have e1 : e.key.isStr sx = (s == sx) := isStr_iff hk
    have e2 : e.refKey = false := by simp [DictEntry.refKey, hk]
    cases q : Nat.beq p.1 x with
    | true =>
      have q1 : p.1 = x := Nat.eq_of_beq_eq_true q
      rw [q1, hx] at hs; (first | exact nosome hs | exact nofalse hs | cases hs)
      refine ⟨e.val, ?_, hv⟩
      unfold getL
      rw [List.find?_cons]
      simp [e1]
    | false =>
      have q1 : s ≠ sx := fun z => by
        subst z
        have := hn _ _ _ hs hx
        rw [this, Nat.beq_refl] at q; (first | exact nosome q | exact nofalse q | cases q)
      have e3 : getL sx (e :: r) = getL sx r := by
        unfold getL
        rw [List.find?_cons]
        have : (s == sx) = false := by simpa using q1
        simp [e1, this, e2]
      show match alook x l with | some v => ∃ val, getL sx (e :: r) = some (some val) ∧ VR h σ v val | none => getL sx (e :: r) = some none
      rw [e3]
      exact ih
theorem Inv.instAt {h : Heap} (I : Inv T w base σ H h) {i c : Nat} {l : List (Nat × V)} (e : H[i]? = some (.inst c l)) :
    ∃ x d C es n, σ[i]? = some (some (x, d)) ∧ T.cls[c]? = some C ∧ InstAt h x (instObj C d) C (some (dictOf es n)) ∧ ¬ Rng σ x ∧ AR T.names h σ l es ∧ IsDictAt h d es n := by
  obtain ⟨p, hp, x, d, C, es, n, rfl, h1, h2, h3, h4, h5⟩ := I.at e
  exact ⟨x, d, C, es, n, hp, h1, ⟨h2, rfl, rfl, h4⟩, h3, h5, h4⟩
theorem VR.handed {h : Heap} {v : V} {val : Value} (hv : VR h σ v val) : handedIn val = true := by
  cases v <;> simp only [VR] at hv
  · subst hv; rfl
  · subst hv; rfl
  · obtain ⟨_, rfl⟩ := hv; rfl
  · obtain ⟨_, rfl⟩ := hv; rfl
  · obtain ⟨_, _, _, _, rfl, _⟩ := hv; rfl
  · obtain ⟨_, _, rfl, _⟩ := hv; rfl
  · obtain ⟨_, _, rfl, _⟩ := hv; rfl
  · obtain ⟨_, _, rfl, _⟩ := hv; rfl
theorem attr_ok (KC : Kc K T P fa base) {i c x : Nat} {sx : Str} {l : List (Nat × V)} {v : V} {o : Value} {expr : Bool} (I : Inv T w base σ H s.heap) (hi : H[i]? = some (.inst c l)) (ho : VR s.heap σ (.ref i) o) (hx : T.names[x]? = some sx) (hm : P.meth c x = none) (hv : alook x l = some v) :
    Ok prog w A (getAttr o sx expr) s (PE T w base σ s v H) := by
  obtain ⟨a, d, Cc, es, n, h1, h2, h3, h4, h5, h6⟩ := I.instAt hi
  rw [ho.refAt h1]
  have hg := getL_of KC.str hx h5
  rw [hv] at hg
  obtain ⟨val, hg, hval⟩ := hg
  obtain ⟨⟨k1, k2, k3⟩, k4⟩ := KC.cls _ _ h2
  have X : K.In s.heap := KC.X.keeps I.stays
  refine get_value X h3 (plainGet_of (plainGet_any (y := sx) k1)).1 (findObj_own k2 (KC.none _ _ _ _ h2 hx hm) rfl (by rw [lookIn_dict]; exact hg)) hval.handed ?_
  exact PE.of I hval
theorem base_plain {o : Expr} {attr : Str} {whole : Sem Value} (h : isCall0 o = false) : attributeBase o attr env whole = whole := by
  unfold attributeBase
  split
  · (first | exact nosome h | exact nofalse h | cases h)
  · rfl
theorem attr_eval {o : Expr} {attr : Str} {pos : Pos} (h : isCall0 o = false) : eval (.Attribute o attr pos) env = (do
      let v ← eval o env
      standAt pos.atName
      let r ← holding [v] (getAttr v attr true)
      letTemporaryGo o v r
      pure r) := by
  rw [arm_eval_Attribute, base_plain h]
set_option tactic.hygienic true in
theorem findStr_at {x : Str} : ∀ {l : List Str} {k i : Nat}, findStr x l k = some i → k ≤ i ∧ l[i - k]? = some x
  | [], _, _, h => by (first | exact nosome h | exact nofalse h | cases h)
  | y :: l, k, i, h => by
    unfold findStr at h
    split at h
    · rename_i q
      first | (replace h := s3 h; obtain ⟨h1', h2', h3'⟩ := h; subst h1'; cases h2'; (first | exact nosome h3' | exact nofalse h3' | cases h3')) | (replace h := s2 h; obtain ⟨rfl, rfl⟩ := h) | (first | exact nosome h | exact nofalse h | cases h)
      exact ⟨Nat.le_refl _, by simp [strEq_iff.mp q]⟩
    · obtain ⟨h1, h2⟩ := findStr_at h
      refine ⟨by omega, ?_⟩
      rw [show i - k = (i - (k + 1)) + 1 by omega]
      simpa using h2
theorem findStr_0 {x : Str} {l : List Str} {i : Nat} (h : findStr x l 0 = some i) : l[i]? = some x := by simpa using (findStr_at h).2
set_option tactic.hygienic true in
theorem se_attr (KC : Kc K T P fa base) {o : Expr} {a : E} {x : Nat} {sx : Str} {pos : Pos} (h0 : isCall0 o = false) (hx : T.names[x]? = some sx) (he : SE prog w T base P C A nm env o a) : SE prog w T base P C A nm env (.Attribute o sx pos) (.attr a x) := by
  intro ρ H v H' σ s h I Fm
  simp only [evE, e_cst, e_var, e_glob, e_nil, e_cons, e_tup, e_lst, e_lstH, e_dictH, e_and, e_or, e_not, e_neg, e_bin, e_cmp, e_cmp2, e_cmp3, e_ife, e_attr, e_sub, e_slice, e_rev, e_call, e_meth, e_new, e_sup, e_bm, e_bi, e_isi, e_comp, e_bvn] at h
  split at h
  · rename_i i H1 h1
    split at h
    · rename_i c l hi
      split at h
      · rename_i hm
        cases q : alook x l with
        | none => rw [q] at h; (first | exact nosome h | exact nofalse h | cases h)
        | some z =>
          rw [q] at h; (first | exact nosome h | exact nofalse h | cases h)
          refine Attribute_any_ ((he ρ H _ H' σ s h1 I Fm).to ?_) (attr_eval h0)
          rintro val s1 ⟨σ1, st1, I1, v1⟩
          exact (attr_ok KC I1 hi v1 hx hm q).to fun _ _ => PE.after st1
      · (first | exact nosome h | exact nofalse h | cases h)
    · (first | exact nosome h | exact nofalse h | cases h)
  · (first | exact nosome h | exact nofalse h | cases h)
theorem args_len (es : List Expr) (env : Env) (pos : Pos) : (backTo pos (starEach es env)) = [] → es = [] := by
  cases es with
  | nil => intro _; rfl
  | cons e l => cases e <;> intro h <;> (first | exact nosome h | exact nofalse h | cases h)
theorem callK {f : Value} {first : List Value} {es : List Expr} {ir : E} {pos : Pos} {Q : Value → Shared → Prop} {l : List V} {H' : Hp} (X : K.In base) (hk : keepIn K f = true) (hl : SL prog w T base P C A nm env es ir) (h : evE P C ir ρ H = some (.lst l, H'))
    (I : Inv T w base σ H s.heap) (Fm : Frm nm env base s.heap σ ρ)
    (hq : ∀ vals s', PEs T w base σ s l H' vals s' → Ok prog w A (call f (first ++ vals)) s' Q) :
    Ok prog w A (callWith pos f first (backTo pos (starEach es env)) []) s Q := by
  have hp := hl.plain pos
  have run := hl.run ρ H l H' σ s pos h I Fm
  refine callWith_of (keywords := []) (P := fun h => K.In h) (by rw [hp]; rfl) (fun h X => keeps_K hk h X) ?_
  cases q : backTo pos (starEach es env) with
  | nil =>
    rw [q] at run
    unfold evalArgs
    show Ok prog w A (spliced [] >>= _) s _
    refine wpAny_bind (run.to ?_)
    intro vals s' hpe
    have r2 := hq vals s' hpe
    obtain ⟨σ', st, I', _⟩ := hpe
    refine wpAny_bind (wpAny_pure ?_)
    refine wpAny_holding ?_
    exact wpAny_bind (wpAny_pure (wpAny_bind (wpAny_pure (wpAny_pure ⟨X.keeps I'.stays, r2⟩))))
  | cons p rest =>
    obtain ⟨b, x⟩ := p
    rw [q] at run hp
    obtain rfl : b = false := by
      rw [List.any_cons, Bool.or_eq_false_iff] at hp
      exact hp.1
    refine Calls.evalArgs_plain (run.to ?_)
    intro vals s' hpe
    have := hq vals s' hpe
    obtain ⟨σ', st, I', _⟩ := hpe
    exact ⟨X.keeps I'.stays, this⟩
end
end Mine
set_option linter.unusedSimpArgs false
namespace Mine
open PySem PySem.W PyProof.Rows PySem.MeetsSeq PySem.SeqAt
section
variable {prog : Program} {w : World} {T : Tb} {base : Heap} {P : Pg} {C : CallT} {A : Around} {nm : Nm} {env : Env} {s : Shared} {σ : Sg} {ρ : Rho} {H : Hp} {K : Frag} {fa : List Addr} {n : Nat} {G : Gt}
set_option tactic.hygienic true in
theorem se_call (KC : Kc K T P fa base) (GO : GlobOk base G T fa) (hC : CO prog w T base fa n C) (hb : BudB n A) {x : Str} {f : Nat} {es : List Expr} {ir : E} {np pos : Pos} (hd : strEq x s_debug = false) (hk : isGlob env.scope x = true) (hx : nfind x G.fns = some f) (hl : SL prog w T base P C A nm env es ir) :
    SE prog w T base P C A nm env (.Call (.Name x np) es [] pos) (.call f ir) := by
  intro ρ H v H' σ s h I Fm
  simp only [evE, e_cst, e_var, e_glob, e_nil, e_cons, e_tup, e_lst, e_lstH, e_dictH, e_and, e_or, e_not, e_neg, e_bin, e_cmp, e_cmp2, e_cmp3, e_ife, e_attr, e_sub, e_slice, e_rev, e_call, e_meth, e_new, e_sup, e_bm, e_bi, e_isi, e_comp, e_bvn] at h
  split at h
  · rename_i l H1 h1
    obtain ⟨mg, mb, GI⟩ := GO
    obtain ⟨a, ha, hg⟩ := GI.fns _ _ hx
    refine Call_ ((load_glob GI hd hk (.inl hg) I Fm).to ?_)
    rintro _ _ ⟨rfl, rfl⟩
    refine callK KC.X (KC.fns _ _ ha).2 hl h1 I Fm ?_
    rintro vals s1 ⟨σ1, st1, I1, v1⟩
    exact (hC.call hb.bud ha h I1 v1).to fun _ _ => PE.after st1
  · (first | exact nosome h | exact nofalse h | cases h)
theorem tc_weight (c : Addr) (l : List Value) (k : List (Str × Value)) : (Code.builtin "type.__call__" ⟨.ref c :: l, k⟩).weight = 1 := by kernel_rfl
theorem tc_units (a : Args) : (Code.builtin "type.__call__" a).cUnits = 1 := by kernel_rfl
theorem BudB.under {n : Nat} {A : Around} (h : BudB n A) (c : Addr) (l : List Value) (k : List (Str × Value)) : Bud n (A.under (.builtin "type.__call__" ⟨.ref c :: l, k⟩)) := by
  have h1 := h.1; have h2 := h.2.1
  refine ⟨?_, ?_, h.2.2⟩
  · show A.units + (Code.builtin "type.__call__" ⟨.ref c :: l, k⟩).cUnits + 20 * n + 60 < cLine
    rw [tc_units]; omega
  · show A.depth + (Code.builtin "type.__call__" ⟨.ref c :: l, k⟩).weight + 4 * n + 8 < recursionLimit
    rw [tc_weight]; omega
theorem new_ok (KC : Kc K T P fa base) (hC : CO prog w T base fa n C) (hb : BudB n A) {c f : Nat} {Cc : Addr} {l : List V} {vals : List Value} {H1 : Hp} (hc : T.cls[c]? = some Cc) (hi : P.ini[c]? = some f) (I : Inv T w base σ H s.heap) (hv : VRs s.heap σ l vals) (e : C f (.ref H.length :: l) (H ++ [.inst c []]) = some (.none, H1)) :
    Ok prog w A (call (.ref Cc) vals) s (PE T w base σ s (.ref H.length) H1) := by
  obtain ⟨a, hfa, hfi, hm, _⟩ := KC.ini _ _ _ hc hi
  have X : K.In s.heap := KC.X.keeps I.stays
  have hf : typeIn K (.ref a) = some (.type "function") := beq_iff_eq.mp (KC.fns _ _ hfa).1
  obtain ⟨h, g, d, t, os⟩ := s
  refine wpAny_call (make_core (makes_of X hm) (looks_findIn X hfi) (fun self => bind_fn X self hf) (.inl rfl) ?_)
  have g1 : ∀ b o, h.get? b = some o → ((h.push emptyDict).push (instObj Cc h.objs.size)).get? b = some o := fun b o e => Heap.get?_push_of_some _ (Heap.get?_push_of_some _ e)
  have hx : ((h.push emptyDict).push (instObj Cc h.objs.size)).get? (h.objs.size + 1) = some (instObj Cc h.objs.size) := by heap_get
  have hd : ((h.push emptyDict).push (instObj Cc h.objs.size)).get? h.objs.size = some emptyDict := by heap_get
  have nx : h.get? (h.objs.size + 1) = Option.none := by
    cases z : h.get? (h.objs.size + 1) with
    | none => rfl
    | some o => exact absurd (Heap.lt_size z) (Nat.not_lt.mpr (Nat.le_succ _))
  have nr : ¬ Rng (σ ++ [some (h.objs.size + 1, h.objs.size)]) (h.objs.size + 1) := fun r => by
    rcases rng_snoc.mp r with q | ⟨y, q⟩
    · exact I.notNew nx q
    · have := congrArg (fun o => o.map Prod.snd) q
      simp at this
  obtain ⟨J, ex⟩ := I.add (h' := (h.push emptyDict).push (instObj Cc h.objs.size)) (x := h.objs.size + 1) (d := h.objs.size) (o := .inst c []) g1 (fresh_none _) I.newBig
    ⟨_, _, Cc, [], 0, rfl, hc, hx, nr, hd, rfl⟩
  have st : Stp σ (σ ++ [some (h.objs.size + 1, h.objs.size)]) ⟨h, g, d, t, os⟩ ⟨(h.push emptyDict).push (instObj Cc h.objs.size), g, d, t, os⟩ := ⟨fun b o e _ => g1 b o e, ex, rfl, rfl, rfl⟩
  have vx : VR ((h.push emptyDict).push (instObj Cc h.objs.size)) (σ ++ [some (h.objs.size + 1, h.objs.size)]) (.ref H.length) (.ref (h.objs.size + 1)) := by
    refine ⟨by simp [I.len], _, rfl, fun p hp => ?_⟩
    rw [I.len] at hp
    simp at hp
    rw [← hp]
  refine codeAny_mono (hC _ (hb.under _ _ _) f a _ _ _ _ _ ⟨(h.push emptyDict).push (instObj Cc h.objs.size), g, d, t, os⟩ _ hfa e J (VRs.cons vx (hv.stp st))) ?_
  rintro r s' ⟨val, rfl, σ2, st2, I2, v2⟩
  exact ⟨v2, σ2, st.trans st2, I2, VR.stp st2 vx⟩
set_option tactic.hygienic true in
theorem se_new (KC : Kc K T P fa base) (GO : GlobOk base G T fa) (hC : CO prog w T base fa n C) (hb : BudB n A) {x : Str} {c : Nat} {es : List Expr} {ir : E} {np pos : Pos} (hd : strEq x s_debug = false) (hk : isGlob env.scope x = true) (hx : nfind x G.classes = some c) (hl : SL prog w T base P C A nm env es ir) :
    SE prog w T base P C A nm env (.Call (.Name x np) es [] pos) (.new c ir) := by
  intro ρ H v H' σ s h I Fm
  simp only [evE, e_cst, e_var, e_glob, e_nil, e_cons, e_tup, e_lst, e_lstH, e_dictH, e_and, e_or, e_not, e_neg, e_bin, e_cmp, e_cmp2, e_cmp3, e_ife, e_attr, e_sub, e_slice, e_rev, e_call, e_meth, e_new, e_sup, e_bm, e_bi, e_isi, e_comp, e_bvn] at h
  refine Classical.byContradiction fun hcon => ?_
  split at h
  · rename_i l H1 h1
    split at h
    · rename_i f hi
      split at h
      · rename_i H2 h2
        first | (replace h := s3 h; obtain ⟨h1', h2', h3'⟩ := h; subst h1'; cases h2'; (first | exact nosome h3' | exact nofalse h3' | cases h3')) | (replace h := s2 h; obtain ⟨rfl, rfl⟩ := h) | (first | exact nosome h | exact nofalse h | cases h)
        obtain ⟨mg, mb, GI⟩ := GO
        obtain ⟨Cc, hc, hg⟩ := GI.cls _ _ hx
        obtain ⟨a, _, _, _, hkp⟩ := KC.ini _ _ _ hc hi
        refine hcon ?_
        refine Call_ ((load_glob GI hd hk (.inl hg) I Fm).to ?_)
        rintro _ _ ⟨rfl, rfl⟩
        refine callK KC.X hkp hl h1 I Fm ?_
        rintro vals s1 ⟨σ1, st1, I1, v1⟩
        exact (new_ok KC hC hb hc hi I1 v1 h2).to fun _ _ => PE.after st1
      · (first | exact nosome h | exact nofalse h | cases h)
    · (first | exact nosome h | exact nofalse h | cases h)
  · (first | exact nosome h | exact nofalse h | cases h)
theorem meth_form {es : List Expr} {pos : Pos} (hp : (backTo pos (starEach es env)).any (·.1) = false) (hn : es.length < 29) : methodCallForm es.length (backTo pos (starEach es env)) [] = true := by
  unfold methodCallForm
  have e : (backTo pos (starEach es env)).all (!·.1) = true := by
    rw [List.all_eq_true]
    rw [List.any_eq_false] at hp
    intro x hx
    have := hp x hx
    simpa using this
  rw [e]
  simp
  omega
theorem meth_eval {o : Expr} {name : Str} {ap pos : Pos} {es : List Expr} {Q : Value → Shared → Prop} (h0 : isCall0 o = false) (hline : (ap.endLine == pos.line) = true) (hp : (backTo pos (starEach es env)).any (·.1) = false) (hn : es.length < 29)
    (h : Ok prog w A (eval o env) s fun ov s1 => Ok prog w A (getMethod ov name (do return (← importBound o env).getD true)) s1 fun fb s2 => Ok prog w A (callWith pos fb.1 fb.2 (backTo pos (starEach es env)) []) s2 Q) :
    Ok prog w A (eval (.Call (.Attribute o name ap) es [] pos) env) s Q := by
  show Ok prog w A (eval (.Call (.Attribute o name ap) es [] pos) env) s Q
  rw [arm_eval_Call, base_plain h0]
  refine wpAny_bind (h.to ?_)
  intro ov s1 h1
  refine wpAny_bind (wpAny_standAt ?_)
  show Ok prog w A (methodCall o name ap pos env ov (es.length + 0) (backTo pos (starEach es env)) []) s1 Q
  unfold methodCall
  rw [Nat.add_zero, meth_form hp hn]
  refine wpAny_bind (wpAny_holding ?_)
  show Ok prog w A (getMethod ov name (do return (← importBound o env).getD true)) s1 _
  refine h1.to ?_
  rintro ⟨f, first⟩ s2 h2
  refine wpAny_bind ?_
  unfold methodCallPos
  rw [hline]
  exact wpAny_pure h2
set_option tactic.hygienic true in
theorem se_meth (KC : Kc K T P fa base) (hC : CO prog w T base fa n C) (hb : BudB n A) {o : Expr} {a ir : E} {x : Nat} {sx : Str} {es : List Expr} {ap pos : Pos} (h0 : isCall0 o = false) (hline : (ap.endLine == pos.line) = true) (hn : es.length < 29) (hx : T.names[x]? = some sx)
    (he : SE prog w T base P C A nm env o a) (hl : SL prog w T base P C A nm env es ir) : SE prog w T base P C A nm env (.Call (.Attribute o sx ap) es [] pos) (.meth a x ir) := by
  intro ρ H v H' σ s h I Fm
  simp only [evE, e_cst, e_var, e_glob, e_nil, e_cons, e_tup, e_lst, e_lstH, e_dictH, e_and, e_or, e_not, e_neg, e_bin, e_cmp, e_cmp2, e_cmp3, e_ife, e_attr, e_sub, e_slice, e_rev, e_call, e_meth, e_new, e_sup, e_bm, e_bi, e_isi, e_comp, e_bvn] at h
  refine Classical.byContradiction fun hcon => ?_
  split at h
  · rename_i i H1 h1
    split at h
    · rename_i c al hi
      split at h
      · rename_i f h2 h3
        split at h
        · rename_i l H2 h4
          refine hcon ?_
          refine meth_eval h0 hline (hl.plain pos) hn ((he ρ H _ H1 σ s h1 I Fm).to ?_)
          rintro ov s1 ⟨σ1, st1, I1, v1⟩
          obtain ⟨xa, d, Cc, es', n', q1, q2, q3, q4, q5, q6⟩ := I1.instAt hi
          have X : K.In s1.heap := KC.X.keeps I1.stays
          obtain ⟨fad, hfa, hfi⟩ := KC.meth _ _ _ _ _ q2 hx h3
          obtain ⟨⟨k1, k2, k3⟩, k4⟩ := KC.cls _ _ q2
          have hg := getL_of KC.str hx q5
          rw [h2] at hg
          have hov := v1.refAt q1
          rw [hov]
          refine method_fn X q3 (plainGet_of (plainGet_any (y := sx) k1)).1 (plainGet_of (plainGet_any (y := sx) k1)).2 hfi (beq_iff_eq.mp (KC.fns _ _ hfa).1) (by show (lookIn sx (dictOf es' n')).map _ = _; rw [lookIn_dict, hg]; rfl) ?_
          refine callK KC.X (KC.fns _ _ hfa).2 hl h4 I1 (Fm.stp st1) ?_
          rintro vals s2 ⟨σ2, st2, I2, v2⟩
          have v1' : VR s2.heap σ2 (.ref i) (.ref xa) := by rw [← hov]; exact v1.stp st2
          exact (hC.call hb.bud hfa h I2 (VRs.cons v1' v2)).to fun _ _ => PE.after (st1.trans st2)
        · (first | exact nosome h | exact nofalse h | cases h)
      · (first | exact nosome h | exact nofalse h | cases h)
    · (first | exact nosome h | exact nofalse h | cases h)
  · (first | exact nosome h | exact nofalse h | cases h)
end
end Mine
set_option linter.unusedSimpArgs false
namespace Mine
open PySem PySem.W PyProof.Rows PySem.MeetsSeq PySem.SeqAt
theorem extW (l : Addr) (items : Array Value) (n : Nat) (b : Addr) (items2 : Array Value) (n2 : Nat) (dd : Option Addr) (sl : Array (Option Value)) (hc0 : ¬(!items.isEmpty && Builtin.List.listTooLong (items.size + items2.size)) = true) (hc1 : items.size ≤ sizeLine) (hs2 : items.size + items2.size ≤ sizeLine + 1) :
    Meets (Builtin.«list.extend» ⟨[.ref l, .ref b], []⟩) (fun _ R s => s.heap.get? l = some { cls := .type "list", dict := none, data := .seq items n, slots := #[] } ∧ s.heap.get? b = some { cls := .type "list", dict := dd, data := .seq items2 n2, slots := sl } ∧ R (.ok (.ret Value.none)) { s with heap := s.heap.update l (Obj.mapSeq fun x => x ++ items2), toks := s.toks }) :=
  .of_wp fun prog w A R s h => by
    obtain ⟨hp, g, d, tk, os⟩ := s; obtain ⟨hl, hb, h⟩ := h; have f1 := AutoSeq1.idx_int; have f2 := AutoSeq1.sub_tuple_tuple; have f3 := AutoSeq1.sub_list_list; have f4 := AutoSeq1.sub_tuple_list; have f5 := AutoSeq1.sub_list_tuple
    have hz' : (items ++ items2).size ≤ sizeLine + 1 := by rw [Array.size_append]; exact hs2
    wp_walk using (wpAny_updateSeq hl rfl (hz := hc1) (_hz' := hz')), AutoSeq1.wpAny_loadPart' hl, AutoSeq1.wpAny_loadPart' hb; exact ⟨_, rfl, h⟩
theorem extWT (l : Addr) (items : Array Value) (n : Nat) (b : Addr) (items2 : Array Value) (n2 : Nat) (dd : Option Addr) (sl : Array (Option Value)) (hc0 : ¬(!items.isEmpty && Builtin.List.listTooLong (items.size + items2.size)) = true) (hc1 : items.size ≤ sizeLine) (hs2 : items.size + items2.size ≤ sizeLine + 1) :
    Meets (Builtin.«list.extend» ⟨[.ref l, .ref b], []⟩) (fun _ R s => s.heap.get? l = some { cls := .type "list", dict := none, data := .seq items n, slots := #[] } ∧ s.heap.get? b = some { cls := .type "tuple", dict := dd, data := .seq items2 n2, slots := sl } ∧ R (.ok (.ret Value.none)) { s with heap := s.heap.update l (Obj.mapSeq fun x => x ++ items2), toks := s.toks }) :=
  .of_wp fun prog w A R s h => by
    obtain ⟨hp, g, d, tk, os⟩ := s; obtain ⟨hl, hb, h⟩ := h; have f1 := AutoSeq1.idx_int; have f2 := AutoSeq1.sub_tuple_tuple; have f3 := AutoSeq1.sub_list_list; have f4 := AutoSeq1.sub_tuple_list; have f5 := AutoSeq1.sub_list_tuple
    have hz' : (items ++ items2).size ≤ sizeLine + 1 := by rw [Array.size_append]; exact hs2
    wp_walk using (wpAny_updateSeq hl rfl (hz := hc1) (_hz' := hz')), AutoSeq1.wpAny_loadPart' hl, AutoSeq1.wpAny_loadPart' hb; exact ⟨_, rfl, h⟩
theorem upd_plain {h : Heap} {l : Addr} {items : Array Value} {n : Nat} (f : Array Value → Array Value) (e : h.get? l = some { cls := .type "list", data := .seq items n }) : (h.update l (Obj.mapSeq f)).PlainList l (f items) := by
  unfold Heap.PlainList
  obtain ⟨n', hd⟩ := Obj.data_mapSeq (o := { cls := .type "list", data := .seq items n }) rfl f
  refine ⟨n', ?_⟩
  have hz : (Obj.mapSeq f { cls := .type "list", data := .seq items n }) = { cls := .type "list", data := .seq (f items) n' } := by
    have h1 : (Obj.mapSeq f { cls := .type "list", data := .seq items n }).cls = .type "list" := by simp [Obj.mapSeq]
    have h2 : (Obj.mapSeq f { cls := .type "list", data := .seq items n }).dict = none := by simp [Obj.mapSeq]
    have h3 : (Obj.mapSeq f { cls := .type "list", data := .seq items n }).slots = #[] := by simp [Obj.mapSeq]
    cases q : Obj.mapSeq f { cls := .type "list", data := .seq items n } with
    | mk a b c d => rw [q] at hd h1 h2 h3; simp at hd h1 h2 h3; simp [hd, h1, h2, h3]
  rw [Heap.get?_update_self _ e (by rw [hz]; rfl), hz]
section
variable {prog : Program} {w : World} {T : Tb} {base : Heap} {P : Pg} {C : CallT} {A : Around} {nm : Nm} {env : Env} {s : Shared} {σ : Sg} {ρ : Rho} {H : Hp} {K : Frag} {fa : List Addr} {n : Nat} {G : Gt}
theorem callF {f : Value} {first : List Value} {es : List Expr} {ir : E} {pos : Pos} {Q : Value → Shared → Prop} {l : List V} {H' : Hp} (hk : ∀ h, ∃ k, (k = Keeper.frame ∨ k = Keeper.machine ∨ k = Keeper.boundFrame) ∧ Looks (model prog w) h (keeperOf f) k) (hl : SL prog w T base P C A nm env es ir) (h : evE P C ir ρ H = some (.lst l, H'))
    (I : Inv T w base σ H s.heap) (Fm : Frm nm env base s.heap σ ρ)
    (hq : ∀ vals s', PEs T w base σ s l H' vals s' → Ok prog w A (call f (first ++ vals)) s' Q) :
    Ok prog w A (callWith pos f first (backTo pos (starEach es env)) []) s Q := by
  have hp := hl.plain pos
  have run := hl.run ρ H l H' σ s pos h I Fm
  refine callWith_of (keywords := []) (P := fun h => True) (by rw [hp]; rfl) (fun h _ => hk h) ?_
  cases q : backTo pos (starEach es env) with
  | nil =>
    rw [q] at run
    unfold evalArgs
    show Ok prog w A (spliced [] >>= _) s _
    refine wpAny_bind (run.to ?_)
    intro vals s' hpe
    have r2 := hq vals s' hpe
    refine wpAny_bind (wpAny_pure ?_)
    refine wpAny_holding ?_
    exact wpAny_bind (wpAny_pure (wpAny_bind (wpAny_pure (wpAny_pure ⟨trivial, r2⟩))))
  | cons p rest =>
    obtain ⟨b, x⟩ := p
    rw [q] at run hp
    obtain rfl : b = false := by
      rw [List.any_cons, Bool.or_eq_false_iff] at hp
      exact hp.1
    refine Calls.evalArgs_plain (run.to ?_)
    intro vals s' hpe
    exact ⟨trivial, hq vals s' hpe⟩
theorem keep_builtin (id : String) (h : Heap) : ∃ k, (k = Keeper.frame ∨ k = Keeper.machine ∨ k = Keeper.boundFrame) ∧ Looks (model prog w) h (keeperOf (.builtin id)) k := ⟨.machine, .inr (.inl rfl), .now⟩
theorem keep_type (id : String) (h : Heap) : ∃ k, (k = Keeper.frame ∨ k = Keeper.machine ∨ k = Keeper.boundFrame) ∧ Looks (model prog w) h (keeperOf (.type id)) k := ⟨.machine, .inr (.inl rfl), .now⟩
theorem setList {i : Nat} {a : Addr} {l' : List V} {items' : Array Value} {h' : Heap} {v : V} {val : Value} {t : Nat} (I : Inv T w base σ H s.heap) (hp : σ[i]? = some (some (a, a))) (hs : Heap.SameBut a s.heap h') (hl : h'.PlainList a items') (hv : VRs s.heap σ l' items'.toList) (hval : VR s.heap σ v val) :
    PE T w base σ s v (H.set i (.list l')) val { s with heap := h', toks := t } := by
  have g : Grow σ s.heap h' := fun b y e n => (hs.2 b fun q => n (q ▸ rng_of hp)).trans e
  obtain ⟨J, g⟩ := I.set (o := .list l') hp hs ⟨a, items', rfl, hl, VRs.step g.keepI (.refl ..) _ hv⟩
  exact ⟨σ, ⟨g, .refl .., rfl, rfl, rfl⟩, J, VR.step g.keepI (.refl ..) _ hval⟩
theorem VRs.one {h : Heap} {x : V} {vals : List Value} (hv : VRs h σ [x] vals) : ∃ a, vals = [a] ∧ VR h σ x a := by
  obtain ⟨v, r, rfl, h1, h2⟩ := hv
  exact ⟨v, by rw [show r = [] from h2], h1⟩
theorem VRs.two {h : Heap} {x y : V} {vals : List Value} (hv : VRs h σ [x, y] vals) : ∃ a b, vals = [a, b] ∧ VR h σ x a ∧ VR h σ y b := by
  obtain ⟨v, r, rfl, h1, h2⟩ := hv
  obtain ⟨b, rfl, h3⟩ := VRs.one h2
  exact ⟨v, b, rfl, h1, h3⟩
theorem VRs.nil {h : Heap} {vals : List Value} (hv : VRs h σ [] vals) : vals = [] := hv
noncomputable def bmId : BM → String
  | .append => "list.append"
  | .extend => "list.extend"
  | .pop => "list.pop"
  | .get => "dict.get"
set_option tactic.hygienic true in
theorem bm_name {x : Str} {op : BM} (h : bmOf x = some op) : (op = .append ∧ x = ("append" : Str)) ∨ (op = .extend ∧ x = ("extend" : Str)) ∨ (op = .pop ∧ x = ("pop" : Str)) ∨ (op = .get ∧ x = ("get" : Str)) := by
  simp only [bmOf, nfind] at h
  repeat' split at h
  all_goals (try (first | exact nosome h | exact nofalse h | cases h))
  · rename_i q; exact .inl ⟨rfl, (strEq_iff.mp q).symm.trans (by decide +kernel)⟩
  · rename_i q; exact .inr (.inl ⟨rfl, (strEq_iff.mp q).symm.trans (by decide +kernel)⟩)
  · rename_i q; exact .inr (.inr (.inl ⟨rfl, (strEq_iff.mp q).symm.trans (by decide +kernel)⟩))
  · rename_i q; exact .inr (.inr (.inr ⟨rfl, (strEq_iff.mp q).symm.trans (by decide +kernel)⟩))
theorem VRs.dropLast {h : Heap} {l : List V} {vs : List Value} (hv : VRs h σ l vs) : VRs h σ l.dropLast vs.dropLast := by
  rw [List.dropLast_eq_take, List.dropLast_eq_take, ← hv.length]
  exact hv.take _
set_option tactic.hygienic true in
theorem bm_ok {op : BM} {x v : V} {l : List V} {ov : Value} {vals : List Value} {H' : Hp} (hu : A.units + 20 < cLine) (I : Inv T w base σ H s.heap) (hx : VR s.heap σ x ov) (hv : VRs s.heap σ l vals) (e : bmop H op x l = some (v, H')) :
    Ok prog w A (call (.builtin (bmId op)) (ov :: vals)) s (PE T w base σ s v H') := by
  (first | exact nosome op | exact nofalse op | cases op)
  case append =>
    replace e := ref1_some e; obtain ⟨i, rfl, e⟩ := e
    replace e := arg1_some e; obtain ⟨y, rfl, e⟩ := e
    replace e := listAt_some e; obtain ⟨l', hl, e⟩ := e
    replace e := ifO_some e; obtain ⟨q, e⟩ := e
    first | (replace e := s3 e; obtain ⟨h1', h2', h3'⟩ := e; subst h1'; cases h2'; (first | exact nosome h3' | exact nofalse h3' | cases h3')) | (replace e := s2 e; obtain ⟨rfl, rfl⟩ := e) | (first | exact nosome e | exact nofalse e | cases e)
    obtain ⟨p, hp, a, items, rfl, ht, hs⟩ := I.at hl
    obtain ⟨b, rfl, hb⟩ := hv.one
    rw [hx.refAt hp]
    have q2 : l'.length < cap := Nat.le_of_ble_eq_true q
    have e1 : l'.length = items.size := by rw [hs.length, Array.length_toList]
    refine wpAny_list_append_plain ht (fun h' h1 h2 => ?_) (by rw [sizeLine_eq]; unfold cap at q2; omega)
    exact setList (t := s.toks) I hp h2 h1 (by simpa using hs.snoc hb) rfl
  case extend =>
    replace e := ref1_some e; obtain ⟨i, rfl, e⟩ := e
    replace e := arg1_some e; obtain ⟨y, rfl, e⟩ := e
    replace e := listAt_some e; obtain ⟨l', hl, e⟩ := e
    obtain ⟨p, hp, a, items, rfl, ht, hs⟩ := I.at hl
    obtain ⟨b, rfl, hb⟩ := hv.one
    rw [hx.refAt hp]
    have e1 : l'.length = items.size := by rw [hs.length, Array.length_toList]
    obtain ⟨n, ho⟩ := id ht
    cases y <;> try (first | exact nosome e | exact nofalse e | cases e)
    case tup r =>
      replace e := ifO_some e; obtain ⟨q, e⟩ := e
      first | (replace e := s3 e; obtain ⟨h1', h2', h3'⟩ := e; subst h1'; cases h2'; (first | exact nosome h3' | exact nofalse h3' | cases h3')) | (replace e := s2 e; obtain ⟨rfl, rfl⟩ := e) | (first | exact nosome e | exact nofalse e | cases e)
      have q2 : l'.length + r.length ≤ cap := Nat.le_of_ble_eq_true q
      obtain ⟨c, i2, rfl, h2, _, v2⟩ := hb
      have e2 : r.length = i2.size := by rw [v2.length, Array.length_toList]
      obtain ⟨⟨cls2, dd2, data2, sl2⟩, ho2, hc2, n2, hd2⟩ := id h2
      simp only at hc2 hd2
      subst hc2 hd2
      have hsz : items.size + i2.size ≤ 4096 := by rw [← e1, ← e2]; exact q2
      refine call_meets PySem.F.slot_list_extend ⟨_, ho, rfl⟩ PySem.F.entry_list_extend (PySem.F.args_list_extend_2 _ _) (extWT a items n c i2 n2 dd2 sl2 (by simp [Builtin.List.listTooLong, sizeLine]; omega) (by rw [sizeLine_eq]; omega) (by rw [sizeLine_eq]; omega)) ⟨ho, ho2, ?_⟩
      exact setList (t := s.toks) I hp (Heap.SameBut.update ..) (upd_plain _ ho) (by simpa using hs.append v2) rfl
    case lst r =>
      replace e := ifO_some e; obtain ⟨q, e⟩ := e
      first | (replace e := s3 e; obtain ⟨h1', h2', h3'⟩ := e; subst h1'; cases h2'; (first | exact nosome h3' | exact nofalse h3' | cases h3')) | (replace e := s2 e; obtain ⟨rfl, rfl⟩ := e) | (first | exact nosome e | exact nofalse e | cases e)
      have q2 : l'.length + r.length ≤ cap := Nat.le_of_ble_eq_true q
      obtain ⟨c, i2, rfl, h2, _, v2⟩ := hb
      have e2 : r.length = i2.size := by rw [v2.length, Array.length_toList]
      obtain ⟨⟨cls2, dd2, data2, sl2⟩, ho2, hc2, n2, hd2⟩ := id h2
      simp only at hc2 hd2
      subst hc2 hd2
      have hsz : items.size + i2.size ≤ 4096 := by rw [← e1, ← e2]; exact q2
      refine call_meets PySem.F.slot_list_extend ⟨_, ho, rfl⟩ PySem.F.entry_list_extend (PySem.F.args_list_extend_2 _ _) (extW a items n c i2 n2 dd2 sl2 (by simp [Builtin.List.listTooLong, sizeLine]; omega) (by rw [sizeLine_eq]; omega) (by rw [sizeLine_eq]; omega)) ⟨ho, ho2, ?_⟩
      exact setList (t := s.toks) I hp (Heap.SameBut.update ..) (upd_plain _ ho) (by simpa using hs.append v2) rfl
  case pop =>
    replace e := ref1_some e; obtain ⟨i, rfl, e⟩ := e
    replace e := arg0_some e; obtain ⟨rfl, e⟩ := e
    replace e := listAt_some e; obtain ⟨l', hl, e⟩ := e
    unfold popL at e
    split at e
    case h_2 => (first | exact nosome e | exact nofalse e | cases e)
    rename_i y hy
    replace e := ifO_some e; obtain ⟨q, e⟩ := e
    first | (replace e := s3 e; obtain ⟨h1', h2', h3'⟩ := e; subst h1'; cases h2'; (first | exact nosome h3' | exact nofalse h3' | cases h3')) | (replace e := s2 e; obtain ⟨rfl, rfl⟩ := e) | (first | exact nosome e | exact nofalse e | cases e)
    obtain ⟨p, hp, a, items, rfl, ht, hs⟩ := I.at hl
    obtain rfl := hv.nil
    rw [hx.refAt hp]
    have q2 : l'.length ≤ cap := Nat.le_of_ble_eq_true q
    have e1 : l'.length = items.size := by rw [hs.length, Array.length_toList]
    obtain ⟨n, ho⟩ := id ht
    rw [List.getLast?_eq_getElem?] at hy
    obtain ⟨yv, hyv, h2⟩ := hs.get hy
    have hlt := lt_of_get hy
    refine call_meets PySem.F.slot_list_pop ⟨_, ho, rfl⟩ PySem.F.entry_list_pop (PySem.F.args_list_pop_1 _) (PySem.MeetsSeq.list_pop_last a _ n yv (by rw [← e1]; simpa using hyv) (by rw [sizeLine_eq]; unfold cap at q2; omega)) ⟨ho, ?_⟩
    refine setList (t := s.toks) I hp (Heap.SameBut.update ..) (upd_plain _ ho) ?_ h2
    have : (items.eraseIdxIfInBounds (items.size - 1)).toList = items.toList.dropLast := by
      have hb : items.size - 1 < items.size := by omega
      rw [Array.eraseIdxIfInBounds, dif_pos hb, Array.toList_eraseIdx, List.eraseIdx_eq_take_drop_succ, List.dropLast_eq_take, Array.length_toList, List.drop_of_length_le (by rw [Array.length_toList]; omega), List.append_nil]
    rw [this]
    exact hs.dropLast
  case get =>
    replace e := ref1_some e; obtain ⟨i, rfl, e⟩ := e
    replace e := arg2_some e; obtain ⟨k, d, rfl, e⟩ := e
    replace e := dictAt_some e; obtain ⟨l', hl, e⟩ := e
    replace e := ifO_some e; obtain ⟨hk, e⟩ := e
    first | (replace e := s3 e; obtain ⟨h1', h2', h3'⟩ := e; subst h1'; cases h2'; (first | exact nosome h3' | exact nofalse h3' | cases h3')) | (replace e := s2 e; obtain ⟨rfl, rfl⟩ := e) | (first | exact nosome e | exact nofalse e | cases e)
    obtain ⟨kv, dv, rfl, h1, h2⟩ := hv.two
    refine (dictGet2_ok hu I hl hx hk h1 h2).to ?_
    rintro val s' ⟨hval, t, rfl⟩
    exact PE.of I hval
set_option tactic.hygienic true in
theorem bm_get {op : BM} {x : V} {sx : Str} {ov : Value} {pl : Sem Bool} (hop : bmOf sx = some op) (I : Inv T w base σ H s.heap) (hx : VR s.heap σ x ov) (e : bmKind H op x = true) : Ok prog w A (getMethod ov sx pl) s fun fb s2 => s2 = s ∧ fb = (.builtin (bmId op), [ov]) := by
  have hl : op ≠ .get → ∃ a items, ov = .ref a ∧ s.heap.PlainList a items := fun hne => by
    unfold bmKind at e
    split at e
    · exact absurd rfl hne
    · rename_i i _
      split at e
      · rename_i l hl
        obtain ⟨p, hp, a, items, rfl, ht, hs⟩ := I.at hl
        exact ⟨a, items, hx.refAt hp, ht⟩
      · (first | exact nosome e | exact nofalse e | cases e)
    · (first | exact nosome e | exact nofalse e | cases e)
  rcases bm_name hop with ⟨rfl, rfl⟩ | ⟨rfl, rfl⟩ | ⟨rfl, rfl⟩ | ⟨rfl, rfl⟩
  · obtain ⟨a, items, rfl, n, ho⟩ := hl nofun
    exact getMethod_builtin ⟨_, ho, rfl⟩ PySem.F.plainAttrs_list PySem.F.slot_list_append PySem.F.type_list_append (fun b e => by cases e; exact ⟨_, ho, rfl⟩) ⟨rfl, rfl⟩
  · obtain ⟨a, items, rfl, n, ho⟩ := hl nofun
    exact getMethod_builtin ⟨_, ho, rfl⟩ PySem.F.plainAttrs_list PySem.F.slot_list_extend PySem.F.type_list_extend (fun b e => by cases e; exact ⟨_, ho, rfl⟩) ⟨rfl, rfl⟩
  · obtain ⟨a, items, rfl, n, ho⟩ := hl nofun
    exact getMethod_builtin ⟨_, ho, rfl⟩ PySem.F.plainAttrs_list PySem.F.slot_list_pop PySem.F.type_list_pop (fun b e => by cases e; exact ⟨_, ho, rfl⟩) ⟨rfl, rfl⟩
  · unfold bmKind at e
    split at e
    · rename_i i
      split at e
      · rename_i l hd
        obtain ⟨d, es, n, hp, h1, h2, h3, hs⟩ := I.dictAt hd
        rw [hx.refAt hp]
        exact getMethod_builtin ⟨_, h1, rfl⟩ PySem.F.plainAttrs_dict PySem.F.slot_dict_get PySem.F.type_dict_get (fun b e => by cases e; exact ⟨_, h1, rfl⟩) ⟨rfl, rfl⟩
      · (first | exact nosome e | exact nofalse e | cases e)
    · rename_i hne; exact (hne rfl).elim
    · (first | exact nosome e | exact nofalse e | cases e)
set_option tactic.hygienic true in
theorem se_bm {op : BM} {o : Expr} {a ir : E} {x : Str} {es : List Expr} {ap pos : Pos} (hu : A.units + 20 < cLine) (h0 : isCall0 o = false) (hline : (ap.endLine == pos.line) = true) (hn : es.length < 29) (hop : bmOf x = some op)
    (he : SE prog w T base P C A nm env o a) (hl : SL prog w T base P C A nm env es ir) : SE prog w T base P C A nm env (.Call (.Attribute o x ap) es [] pos) (.bm op a ir) := by
  intro ρ H v H' σ s h I Fm
  simp only [evE, e_cst, e_var, e_glob, e_nil, e_cons, e_tup, e_lst, e_lstH, e_dictH, e_and, e_or, e_not, e_neg, e_bin, e_cmp, e_cmp2, e_cmp3, e_ife, e_attr, e_sub, e_slice, e_rev, e_call, e_meth, e_new, e_sup, e_bm, e_bi, e_isi, e_comp, e_bvn] at h
  split at h
  · rename_i x1 H1 h1
    split at h
    · rename_i hk
      split at h
      · rename_i l H2 h2
        refine meth_eval h0 hline (hl.plain pos) hn ((he ρ H _ H1 σ s h1 I Fm).to ?_)
        rintro ov s1 ⟨σ1, st1, I1, v1⟩
        refine (bm_get hop I1 v1 hk).to ?_
        rintro fb s2 ⟨rfl, rfl⟩
        refine callF (keep_builtin _) hl h2 I1 (Fm.stp st1) ?_
        rintro vals s3 ⟨σ3, st3, I3, v3⟩
        exact (bm_ok hu I3 (v1.stp st3) v3 h).to fun _ _ => PE.after (st1.trans st3)
      · (first | exact nosome h | exact nofalse h | cases h)
    · (first | exact nosome h | exact nofalse h | cases h)
  · (first | exact nosome h | exact nofalse h | cases h)
end
end Mine
set_option linter.unusedSimpArgs false
namespace Mine
open PySem PySem.W PyProof.Rows PySem.MeetsSeq PySem.SeqAt
set_option tactic.hygienic true in
theorem ints_are {h : Heap} {σ : Sg} : ∀ {l : List V} {vs : List Value} {ns : List Int}, VRs h σ l vs → intsOf l = some ns → IntsAre vs ns
  | [], _, ns, H, e => by rw [show _ = [] from H]; (first | (replace e := s3 e; obtain ⟨h1', h2', h3'⟩ := e; subst h1'; cases h2'; (first | exact nosome h3' | exact nofalse h3' | cases h3')) | (replace e := s2 e; obtain ⟨rfl, rfl⟩ := e) | (first | exact nosome e | exact nofalse e | cases e)); exact .nil
  | x :: l, _, ns, H, e => by
    obtain ⟨v, r, rfl, h1, h2⟩ := H
    unfold intsOf at e
    split at e
    · rename_i q; (first | exact nosome q | exact nofalse q | cases q)
    · rename_i a l' q
      (first | exact nosome q | exact nofalse q | cases q)
      split at e
      · rename_i r' hr
        first | (replace e := s3 e; obtain ⟨h1', h2', h3'⟩ := e; subst h1'; cases h2'; (first | exact nosome h3' | exact nofalse h3' | cases h3')) | (replace e := s2 e; obtain ⟨rfl, rfl⟩ := e) | (first | exact nosome e | exact nofalse e | cases e)
        obtain ⟨t, rfl⟩ := h1
        exact .cons _ _ (ints_are h2 hr)
      · (first | exact nosome e | exact nofalse e | cases e)
    · (first | exact nosome e | exact nofalse e | cases e)
theorem ints_items : ∀ {vs : List Value} {ns : List Int}, IntsAre vs ns → ∃ ts : List (Int × Tok), vs = ts.map (fun p => Value.int p.1 p.2) ∧ ts.map Prod.fst = ns
  | _, _, .nil => ⟨[], rfl, rfl⟩
  | _, _, .cons n t h => by
    obtain ⟨ts, h1, h2⟩ := ints_items h
    exact ⟨(n, t) :: ts, by rw [h1]; rfl, by rw [← h2]; rfl⟩
theorem items_of {items : Array Value} {ns : List Int} (h : IntsAre items.toList ns) : ∃ xs : Array (Int × Tok), items = intItems xs ∧ xs.size = ns.length ∧ ∀ i, numAt xs i = (ns[i]?).getD 0 := by
  obtain ⟨ts, h1, h2⟩ := ints_items h
  refine ⟨ts.toArray, ?_, by rw [← h2]; simp, fun i => ?_⟩
  · apply Array.toList_inj.mp
    rw [h1]
    simp [intItems]
  · rw [← h2]
    simp [numAt]
theorem minL_snoc : ∀ (l : List Int) (a b : Int), minL a (l ++ [b]) = if b < minL a l then b else minL a l
  | [], a, b => rfl
  | c :: l, a, b => minL_snoc l _ b
theorem maxL_snoc : ∀ (l : List Int) (a b : Int), maxL a (l ++ [b]) = if b > maxL a l then b else maxL a l
  | [], a, b => rfl
  | c :: l, a, b => maxL_snoc l _ b
theorem argBest_succ (bt : Nat → Nat → Bool) (k : Nat) : argBest bt (k + 1) = if bt (k + 1) (argBest bt k) then k + 1 else argBest bt k := rfl
theorem best_min {f : Nat → Int} {a : Int} {r : List Int} (hf : ∀ i, i < r.length + 1 → f i = ((a :: r)[i]?).getD 0) : ∀ k, k ≤ r.length → argBest (fun i j => decide (f i < f j)) k ≤ k ∧ f (argBest (fun i j => decide (f i < f j)) k) = minL a (r.take k)
  | 0, _ => ⟨Nat.le_refl _, by rw [argBest, hf 0 (by omega)]; rfl⟩
  | k + 1, hk => by
    obtain ⟨h1, h2⟩ := best_min hf k (by omega)
    have hlt : k < r.length := by omega
    have e1 : f (k + 1) = r[k] := by rw [hf (k + 1) (by omega)]; simp [hlt]
    rw [List.take_succ_eq_append_getElem hlt, minL_snoc, ← h2, ← e1]
    rw [argBest_succ]
    by_cases q : f (k + 1) < f (argBest (fun i j => decide (f i < f j)) k)
    · simp only [q, decide_true, if_true]
      exact ⟨Nat.le_refl _, trivial⟩
    · simp only [q, decide_false, if_false, Bool.false_eq_true]
      exact ⟨by omega, trivial⟩
theorem best_max {f : Nat → Int} {a : Int} {r : List Int} (hf : ∀ i, i < r.length + 1 → f i = ((a :: r)[i]?).getD 0) : ∀ k, k ≤ r.length → argBest (fun i j => decide (f i > f j)) k ≤ k ∧ f (argBest (fun i j => decide (f i > f j)) k) = maxL a (r.take k)
  | 0, _ => ⟨Nat.le_refl _, by rw [argBest, hf 0 (by omega)]; rfl⟩
  | k + 1, hk => by
    obtain ⟨h1, h2⟩ := best_max hf k (by omega)
    have hlt : k < r.length := by omega
    have e1 : f (k + 1) = r[k] := by rw [hf (k + 1) (by omega)]; simp [hlt]
    rw [List.take_succ_eq_append_getElem hlt, maxL_snoc, ← h2, ← e1]
    rw [argBest_succ]
    by_cases q : f (k + 1) > f (argBest (fun i j => decide (f i > f j)) k)
    · simp only [q, decide_true, if_true]
      exact ⟨Nat.le_refl _, trivial⟩
    · simp only [q, decide_false, if_false, Bool.false_eq_true]
      exact ⟨by omega, trivial⟩
theorem sumI_snoc : ∀ (l : List Int) (b : Int), sumI (l ++ [b]) = sumI l + b
  | [], b => by simp [sumI]
  | a :: l, b => by simp only [List.cons_append, sumI, sumI_snoc l b]; omega
theorem pre_sum {f : Nat → Int} {r : List Int} (hf : ∀ i, f i = (r[i]?).getD 0) : ∀ k, k ≤ r.length → preSum f k = sumI (r.take k)
  | 0, _ => rfl
  | k + 1, hk => by
    have hlt : k < r.length := by omega
    rw [preSum, pre_sum hf k (by omega), List.take_succ_eq_append_getElem hlt, sumI_snoc, hf k]
    simp [hlt]
theorem sum_small : ∀ {r : List Int}, (∀ a ∈ r, a.natAbs < 4294967296) → -(4294967296 * (r.length : Int)) ≤ sumI r ∧ sumI r ≤ 4294967296 * r.length
  | [], _ => by simp [sumI]
  | a :: r, h => by
    have h1 := h a (.head _)
    obtain ⟨h2, h3⟩ := sum_small (r := r) fun x hx => h x (.tail _ hx)
    simp only [sumI, List.length_cons]
    omega
theorem insI_perm (a : Int) : ∀ l, (insI a l).Perm (a :: l)
  | [] => .refl _
  | b :: l => by
    unfold insI
    split
    · exact .refl _
    · exact ((insI_perm a l).cons b).trans (.swap ..)
theorem sortI_perm : ∀ l, (sortI l).Perm l
  | [] => .refl _
  | a :: l => (insI_perm a _).trans ((sortI_perm l).cons a)
set_option tactic.hygienic true in
theorem insI_sorted (a : Int) : ∀ {l : List Int}, l.Pairwise (· ≤ ·) → (insI a l).Pairwise (· ≤ ·)
  | [], _ => List.pairwise_singleton ..
  | b :: l, h => by
    unfold insI
    split
    · rename_i q
      refine List.pairwise_cons.mpr ⟨fun x hx => ?_, h⟩
      rcases List.mem_cons.mp hx with rfl | hx
      · exact q
      · exact Int.le_trans q ((List.pairwise_cons.mp h).1 x hx)
    · rename_i q
      obtain ⟨h1, h2⟩ := List.pairwise_cons.mp h
      refine List.pairwise_cons.mpr ⟨fun x hx => ?_, insI_sorted a h2⟩
      rcases List.mem_cons.mp ((insI_perm a l).mem_iff.mp hx) with rfl | hx
      · omega
      · exact h1 x hx
theorem sortI_sorted : ∀ l, (sortI l).Pairwise (· ≤ ·)
  | [] => .nil
  | a :: l => insI_sorted a (sortI_sorted l)
theorem perm_sorted {a b : List Int} (p : a.Perm b) (ha : a.Pairwise (· ≤ ·)) (hb : b.Pairwise (· ≤ ·)) : a = b :=
  p.eq_of_pairwise (fun x y _ _ h1 h2 => Int.le_antisymm h1 h2) ha hb
theorem VRs.ofInts {h : Heap} {σ : Sg} : ∀ {vs : List Value} {ns : List Int}, IntsAre vs ns → VRs h σ (ns.map .int) vs
  | _, _, .nil => rfl
  | _, _, .cons n t q => ⟨_, _, rfl, ⟨t, rfl⟩, VRs.ofInts q⟩
section
variable {prog : Program} {w : World} {T : Tb} {base : Heap} {P : Pg} {C : CallT} {A : Around} {nm : Nm} {env : Env} {s : Shared} {σ : Sg} {ρ : Rho} {H : Hp} {K : Frag} {fa : List Addr} {n : Nat} {G : Gt} {E : Value → Shared → Prop}
theorem collect_tup {l : Addr} {vs : List Value} {Q : List Value → Shared → Prop} (hl : s.heap.IsTuple l vs.toArray)
    (h : Q vs { s with heap := (s.heap.push (seqObj "list" #[] 0)).update s.heap.objs.size (Obj.mapSeq (· ++ vs.toArray)) }) (hsz : vs.length ≤ sizeLine) :
    wpAny (model prog w) A (collect (.ref l)) Q E s := by
  obtain ⟨o, ho, hc, n, hd⟩ := id hl
  unfold collect
  refine wpAny_bind (wpAny_runValue (codeAny_builtin entry_proto_collect' ?_))
  show wpAny _ _ (do again (.builtin "list.__iadd__" ⟨[← newList [], .ref l], []⟩)) _ _ s
  refine wpAny_bind (wpAny_newList (wpAny_pure ⟨Code.quiet_builtin _ (by decide +kernel), codeAny_builtin entry_list_iadd' ?_⟩))
  show wpAny _ _ (Builtin.List.listExtendWith (.ref s.heap.objs.size) (.ref l) (.ref s.heap.objs.size)) _ _ { s with heap := s.heap.push (seqObj "list" #[] 0) }
  unfold Builtin.List.listExtendWith
  have ho' : (s.heap.push (seqObj "list" #[] 0)).get? l = some o := Heap.get?_push_of_some _ ho
  refine wpAny_bind (wpAny_typeOf (T := "tuple") ⟨o, ho', hc⟩ ?_)
  have ht : (Value.type "tuple" == Value.type "tuple") = true := by rfl
  rw [if_pos (by rw [ht]; simp)]
  refine wpAny_bind (listItems_at ho' hd ?_)
  refine wpAny_bind (listItems_at (xs := #[]) (n := 0) (Heap.get?_push_size _ rfl) rfl ?_)
  rw [if_neg (by simp)]
  refine wpAny_bind (listUpdate_at (xs := #[]) (n := 0) (Heap.get?_push_size _ rfl) rfl ?_ (Nat.zero_le _) (by show (#[] ++ vs.toArray).size ≤ sizeLine + 1; simp only [Array.size_append, List.size_toArray, List.length_nil]; omega))
  refine wpAny_pure ?_
  show wpAny (model prog w) A (do
      let o ← load s.heap.objs.size
      match o.data with
      | .seq xs _ => pure xs.toList
      | _ => unsupported "internal:collect") Q E { s with heap := (s.heap.push (seqObj "list" #[] 0)).update s.heap.objs.size (Obj.mapSeq (· ++ vs.toArray)) }
  refine wpAny_bind (wpAny_load (get?_update_seq (Heap.get?_push_size _ rfl) _) ?_)
  show wpAny _ _ (pure ((#[] : Array Value) ++ vs.toArray).toList) Q E _
  rw [show ((#[] : Array Value) ++ vs.toArray).toList = vs by simp]
  exact wpAny_pure h
theorem sorted_intsT {l : Addr} {vs : List Value} {ns : List Int} {Q : Value → Shared → Prop} (hl : s.heap.IsTuple l vs.toArray) (hI : IntsAre vs ns) (h64 : vs.length < 64)
    (h : ∀ (out : Array Value) (ns' : List Int), IntsAre out.toList ns' → ns'.Perm ns → ns'.Pairwise (· ≤ ·) → Q (.ref (s.heap.objs.size + 1)) { s with heap := sortedAll s.heap vs out }) :
    wpAny (model prog w) A (call (.builtin "sorted") [.ref l]) Q E s := by
  refine Calls.call_function_entry kind_sorted plain_sorted entry_sorted (args_sorted1 _) ?_
  unfold Builtin.«sorted»
  refine wpAny_bind (m := checkCount "sorted" 1 1 _) (wpAny_pure ?_)
  refine wpAny_bind (collect_tup hl ?_ (by rw [sizeLine_eq]; omega))
  refine wpAny_bind (wpAny_newList ?_)
  have hsz : ((s.heap.push (seqObj "list" #[] 0)).update s.heap.objs.size (Obj.mapSeq (· ++ vs.toArray))).objs.size = s.heap.objs.size + 1 := by
    rw [Heap.size_update, size_push']
  have hoL : (((s.heap.push (seqObj "list" #[] 0)).update s.heap.objs.size (Obj.mapSeq (· ++ vs.toArray))).push (seqObj "list" vs.toArray 0)).get? (s.heap.objs.size + 1) = some (seqObj "list" vs.toArray 0) := by
    rw [← hsz]; exact Heap.get?_push_size _ rfl
  show wpAny _ _ _ _ _ { s with heap := ((s.heap.push (seqObj "list" #[] 0)).update s.heap.objs.size (Obj.mapSeq (· ++ vs.toArray))).push (seqObj "list" vs.toArray 0) }
  rw [hsz]
  refine wpAny_bind (wpAny_holding (wpAny_call_entry slot_list_sort ⟨_, hoL, rfl⟩ entry_list_sort (list_sort_tree hoL hI h64 fun out ns' a1 a2 a3 => ⟨_, rfl, ?_⟩) (args_list_sort _)))
  exact wpAny_pure ⟨_, rfl, h out ns' a1 a2 a3⟩
theorem sorted_end {vs : List Value} {r : List Int} (I : Inv T w base σ H s.heap) (out : Array Value) (ns' : List Int) (a1 : IntsAre out.toList ns') (a2 : ns'.Perm r) (a3 : ns'.Pairwise (· ≤ ·)) :
    PE T w base σ s (.lst ((sortI r).map .int)) H (.ref (s.heap.objs.size + 1)) { s with heap := sortedAll s.heap vs out } := by
  obtain ⟨e, he⟩ := sortedAll_at s.heap vs out
  have e1 : ns' = sortI r := perm_sorted (a2.trans (sortI_perm r).symm) a3 (sortI_sorted r)
  refine PE.grown (t := s.toks) I (fun b o => sortedAll_old) ⟨_, out, rfl, ⟨_, he, rfl, e, rfl⟩, fun r => ?_, ?_⟩
  · refine I.notNew (a := s.heap.objs.size + 1) ?_ r
    cases z : s.heap.get? (s.heap.objs.size + 1) with
    | none => rfl
    | some o => exact absurd (Heap.lt_size z) (Nat.not_lt.mpr (Nat.le_succ _))
  · rw [← e1]; exact VRs.ofInts a1
theorem seq_of {x : V} {l : List V} {v : Value} (I : Inv T w base σ H s.heap) (e : seqOf H x = some l) (hv : VR s.heap σ x v) : ∃ a items, v = .ref a ∧ VRs s.heap σ l items.toList ∧ ((s.heap.IsTuple a items ∧ x = .tup l) ∨ s.heap.IsList a items) := by
  unfold seqOf at e
  split at e
  · (first | exact nosome e | exact nofalse e | cases e)
    obtain ⟨a, items, rfl, h1, _, h2⟩ := hv
    exact ⟨a, items, rfl, h2, .inl ⟨h1, rfl⟩⟩
  · obtain ⟨a, items, rfl, h1, h2⟩ := list_of I e hv
    exact ⟨a, items, rfl, h2, .inr h1⟩
theorem bi_ok {op : Bi} {l : List V} {v : V} {vals : List Value} (hh : A.handled = none) (I : Inv T w base σ H s.heap) (hv : VRs s.heap σ l vals) (e : biop H op l = some v) : Ok prog w A (call (biVal op) vals) s (PE T w base σ s v H) := by
  (first | exact nosome op | exact nofalse op | cases op)
  case abs =>
    replace e := arg1_some e; obtain ⟨x, rfl, e⟩ := e
    replace e := int1_some e; obtain ⟨a, rfl, e⟩ := e
    first | (replace e := s3 e; obtain ⟨h1', h2', h3'⟩ := e; subst h1'; cases h2'; (first | exact nosome h3' | exact nofalse h3' | cases h3')) | (replace e := s2 e; obtain ⟨rfl, rfl⟩ := e) | (first | exact nosome e | exact nofalse e | cases e)
    obtain ⟨av, rfl, t, rfl⟩ := hv.one
    refine call_abs_int fun u tk => ?_
    refine PE.of I ⟨u, ?_⟩
    congr 1
    split <;> omega
  case len =>
    replace e := arg1_some e; obtain ⟨x, rfl, e⟩ := e
    replace e := seqB_some e; obtain ⟨r, hr, e⟩ := e
    replace e := ifO_some e; obtain ⟨q, rfl⟩ := e
    have q2 : r.length ≤ cap := Nat.le_of_ble_eq_true q
    unfold cap at q2
    obtain ⟨av, rfl, h1⟩ := hv.one
    obtain ⟨a, items, rfl, h2, h3⟩ := seq_of I hr h1
    have e1 : r.length = items.size := by rw [h2.length, Array.length_toList]
    rcases h3 with ⟨h3, _⟩ | h3
    · exact len_tuple h3 (by omega) (PE.of I ⟨_, by rw [e1]⟩)
    · exact PySem.Calls.call_len_list h3 (by omega) (PE.of I ⟨_, by rw [e1]⟩)
  case min =>
    match l, e with
    | [x], e =>
      replace e := lst1_some e; obtain ⟨l', rfl, e⟩ := e
      replace e := intsB_some e; obtain ⟨r, hr, e⟩ := e
      replace e := consB_some e; obtain ⟨a, r, rfl, rfl⟩ := e
      obtain ⟨av, rfl, b, items, rfl, h1, _, h2⟩ := hv.one
      obtain ⟨xs, rfl, h3, h4⟩ := items_of (ints_are h2 hr)
      refine min_intList hh h1 (by rw [h3]; simp) fun v h' tk hb hk => PE.grown I hk ?_
      obtain ⟨t, rfl⟩ := intItems_at hb
      have := (best_min (f := numAt xs) (a := a) (r := r) (fun i _ => h4 i) (xs.size - 1) (by rw [h3]; simp)).2
      rw [this, h3]
      exact ⟨t, by simp⟩
    | [x, y], e =>
      replace e := ints2_some e; obtain ⟨m, n, rfl, rfl, e⟩ := e
      first | (replace e := s3 e; obtain ⟨h1', h2', h3'⟩ := e; subst h1'; cases h2'; (first | exact nosome h3' | exact nofalse h3' | cases h3')) | (replace e := s2 e; obtain ⟨rfl, rfl⟩ := e) | (first | exact nosome e | exact nofalse e | cases e)
      obtain ⟨av, bv, rfl, ⟨t, rfl⟩, ⟨u, rfl⟩⟩ := hv.two
      refine min_two_ints hh fun h' tk hk => PE.grown I hk ?_
      show VR h' σ (V.int (if n < m then n else m)) _
      split <;> exact ⟨_, rfl⟩
  case max =>
    match l, e with
    | [x], e =>
      replace e := lst1_some e; obtain ⟨l', rfl, e⟩ := e
      replace e := intsB_some e; obtain ⟨r, hr, e⟩ := e
      replace e := consB_some e; obtain ⟨a, r, rfl, rfl⟩ := e
      obtain ⟨av, rfl, b, items, rfl, h1, _, h2⟩ := hv.one
      obtain ⟨xs, rfl, h3, h4⟩ := items_of (ints_are h2 hr)
      refine max_intList hh h1 (by rw [h3]; simp) fun v h' tk hb hk => PE.grown I hk ?_
      obtain ⟨t, rfl⟩ := intItems_at hb
      have := (best_max (f := numAt xs) (a := a) (r := r) (fun i _ => h4 i) (xs.size - 1) (by rw [h3]; simp)).2
      rw [this, h3]
      exact ⟨t, by simp⟩
    | [x, y], e =>
      replace e := ints2_some e; obtain ⟨m, n, rfl, rfl, e⟩ := e
      first | (replace e := s3 e; obtain ⟨h1', h2', h3'⟩ := e; subst h1'; cases h2'; (first | exact nosome h3' | exact nofalse h3' | cases h3')) | (replace e := s2 e; obtain ⟨rfl, rfl⟩ := e) | (first | exact nosome e | exact nofalse e | cases e)
      obtain ⟨av, bv, rfl, ⟨t, rfl⟩, ⟨u, rfl⟩⟩ := hv.two
      refine max_two_ints hh fun h' tk hk => PE.grown I hk ?_
      show VR h' σ (V.int (if n > m then n else m)) _
      split <;> exact ⟨_, rfl⟩
  case sum =>
    replace e := arg1_some e; obtain ⟨x, rfl, e⟩ := e
    replace e := lst1_some e; obtain ⟨l', rfl, e⟩ := e
    replace e := intsB_some e; obtain ⟨r, hr, e⟩ := e
    replace e := ifO_some e; obtain ⟨q, rfl⟩ := e
    rw [Bool.and_eq_true, List.all_eq_true] at q
    have q1 : ∀ a ∈ r, a.natAbs < 4294967296 := fun a ha => Nat.le_of_ble_eq_true (q.1 a ha)
    have q2 : r.length ≤ 4096 := Nat.le_of_ble_eq_true q.2
    obtain ⟨av, rfl, b, items, rfl, h1, _, h2⟩ := hv.one
    obtain ⟨xs, rfl, h3, h4⟩ := items_of (ints_are h2 hr)
    refine sum_intList hh h1 (fun j hj => ?_) fun h' tk t' hk => PE.grown I hk ⟨t', ?_⟩
    · have hj' : j < r.length := by omega
      constructor
      · rw [h4 j]
        have := q1 _ (List.getElem_mem hj')
        have e : (r[j]?).getD 0 = r[j] := by simp [hj']
        rw [e]
        constructor <;> omega
      · rw [pre_sum h4 (j + 1) (by omega)]
        have hs := sum_small (r := r.take (j + 1)) fun a ha => q1 a (List.mem_of_mem_take ha)
        have hl : (r.take (j + 1)).length ≤ 4096 := by rw [List.length_take]; omega
        constructor <;> omega
    · rw [pre_sum h4 _ (by omega), h3, List.take_length]
  case sorted =>
    replace e := arg1_some e; obtain ⟨x, rfl, e⟩ := e
    replace e := seqB_some e; obtain ⟨l', hl, e⟩ := e
    replace e := intsB_some e; obtain ⟨r, hr, e⟩ := e
    replace e := ifO_some e; obtain ⟨q, rfl⟩ := e
    have q2 : r.length < 64 := Nat.le_of_ble_eq_true q
    obtain ⟨av, rfl, h1⟩ := hv.one
    obtain ⟨a, items, rfl, h2, h3⟩ := seq_of I hl h1
    have hI := ints_are h2 hr
    have h64 : items.toList.length < 64 := by rw [hI.length]; exact q2
    rcases h3 with ⟨h3, _⟩ | h3
    · exact sorted_intsT (vs := items.toList) (by rw [Array.toArray_toList]; exact h3) hI h64 fun out ns' a1 a2 a3 => sorted_end I out ns' a1 a2 a3
    · exact sorted_ints (vs := items.toList) (by rw [Array.toArray_toList]; exact h3) hI h64 fun out ns' a1 a2 a3 => sorted_end I out ns' a1 a2 a3
  case tuple =>
    replace e := arg1_some e; obtain ⟨x, rfl, e⟩ := e
    replace e := seqB_some e; obtain ⟨r, hr, e⟩ := e
    replace e := ifO_some e; obtain ⟨q, rfl⟩ := e
    have q2 : r.length ≤ cap := Nat.le_of_ble_eq_true q
    obtain ⟨av, rfl, h1⟩ := hv.one
    obtain ⟨a, items, rfl, h2, h3⟩ := seq_of I hr h1
    have e1 : r.length = items.size := by rw [h2.length, Array.length_toList]
    rcases h3 with ⟨h3, rfl⟩ | h3
    · exact call_tuple_same h3 (PE.of0 I h1)
    · refine call_tuple_list h3 (fun h' hk => ?_) (by rw [sizeLine_eq]; unfold cap at q2; omega)
      have g : ∀ b o, s.heap.get? b = some o → (h'.push { cls := .type "tuple", data := .seq items }).get? b = some o := fun b o e => Heap.get?_push_of_some _ (hk b o e)
      have hn : ¬ Rng σ h'.objs.size := (I.more hk).notNew (fresh_none _)
      exact PE.grown (t := s.toks) I g ⟨_, items, rfl, ⟨_, Heap.get?_push_size _ rfl, rfl, 0, rfl⟩, hn, VRs.step (fun b o e _ _ => g b o e) (.refl ..) _ h2⟩
  case list =>
    replace e := arg1_some e; obtain ⟨x, rfl, e⟩ := e
    replace e := listB_some e; obtain ⟨r, hr, e⟩ := e
    replace e := ifO_some e; obtain ⟨q, rfl⟩ := e
    have q2 : r.length ≤ cap := Nat.le_of_ble_eq_true q
    obtain ⟨av, rfl, h1⟩ := hv.one
    obtain ⟨a, items, rfl, h3, h2⟩ := list_of I hr h1
    have e1 : r.length = items.size := by rw [h2.length, Array.length_toList]
    obtain ⟨o, ho, hc, n, hd⟩ := h3
    refine call_list_seq a (.inl rfl) ho hc hd (fun h' c' hk hD => ?_) (by rw [sizeLine_eq]; unfold cap at q2; omega)
    exact PE.grown (t := s.toks) I hk ⟨_, items, rfl, ⟨_, hD, rfl, c', rfl⟩, I.notNew (fresh_none _), VRs.step (fun b o e _ _ => hk b o e) (.refl ..) _ h2⟩
  case int =>
    replace e := arg1_some e; obtain ⟨x, rfl, e⟩ := e
    replace e := int1_some e; obtain ⟨a, rfl, e⟩ := e
    first | (replace e := s3 e; obtain ⟨h1', h2', h3'⟩ := e; subst h1'; cases h2'; (first | exact nosome h3' | exact nofalse h3' | cases h3')) | (replace e := s2 e; obtain ⟨rfl, rfl⟩ := e) | (first | exact nosome e | exact nofalse e | cases e)
    obtain ⟨av, rfl, t, rfl⟩ := hv.one
    exact call_int_int (PE.of0 I ⟨t, rfl⟩)
  case range =>
    match l, e with
    | [x], e =>
      replace e := int1_some e; obtain ⟨b, rfl, e⟩ := e
      replace e := ifO_some e; obtain ⟨q, rfl⟩ := e
      obtain ⟨av, rfl, t, rfl⟩ := hv.one
      exact call_range_1 (PE.grown I (push_get _ _) ⟨_, _, _, _, rfl, IsRange.new .., I.notNew (fresh_none _)⟩)
    | [x, y], e =>
      replace e := ints2_some e; obtain ⟨a, b, rfl, rfl, e⟩ := e
      replace e := ifO_some e; obtain ⟨q, rfl⟩ := e
      obtain ⟨av, bv, rfl, ⟨t, rfl⟩, ⟨u, rfl⟩⟩ := hv.two
      exact call_range_2 (PE.grown I (push_get _ _) ⟨_, _, _, _, rfl, IsRange.new .., I.notNew (fresh_none _)⟩)
end
end Mine
set_option linter.unusedSimpArgs false
namespace Mine
open PySem PySem.W PyProof.Rows PySem.MeetsSeq PySem.SeqAt
section
variable {prog : Program} {w : World} {T : Tb} {base : Heap} {P : Pg} {C : CallT} {A : Around} {nm : Nm} {env : Env} {s : Shared} {σ : Sg} {ρ : Rho} {H : Hp} {K : Frag} {fa : List Addr} {n : Nat} {G : Gt}
theorem keep_bi (op : Bi) (h : Heap) : ∃ k, (k = Keeper.frame ∨ k = Keeper.machine ∨ k = Keeper.boundFrame) ∧ Looks (model prog w) h (keeperOf (biVal op)) k := by
  cases op <;> first | exact keep_builtin _ h | exact keep_type _ h
set_option tactic.hygienic true in
theorem se_bi (GO : GlobOk base G T fa) (hh : A.handled = none) {x : Str} {op : Bi} {es : List Expr} {ir : E} {np pos : Pos} (hd : strEq x s_debug = false) (hk : isGlob env.scope x = true) (hx : biOf x = some op) (hl : SL prog w T base P C A nm env es ir) :
    SE prog w T base P C A nm env (.Call (.Name x np) es [] pos) (.bi op ir) := by
  intro ρ H v H' σ s h I Fm
  simp only [evE, e_cst, e_var, e_glob, e_nil, e_cons, e_tup, e_lst, e_lstH, e_dictH, e_and, e_or, e_not, e_neg, e_bin, e_cmp, e_cmp2, e_cmp3, e_ife, e_attr, e_sub, e_slice, e_rev, e_call, e_meth, e_new, e_sup, e_bm, e_bi, e_isi, e_comp, e_bvn] at h
  split at h
  · rename_i l H1 h1
    cases q : biop H1 op l with
    | none => rw [q] at h; (first | exact nosome h | exact nofalse h | cases h)
    | some z =>
      rw [q] at h; (first | exact nosome h | exact nofalse h | cases h)
      obtain ⟨mg, mb, GI⟩ := GO
      refine Call_ ((load_glob GI hd hk (.inr (GI.bi _ _ hx)) I Fm).to ?_)
      rintro _ _ ⟨rfl, rfl⟩
      refine callF (keep_bi op) hl h1 I Fm ?_
      rintro vals s1 ⟨σ1, st1, I1, v1⟩
      exact (bi_ok hh I1 v1 q).to fun _ _ => PE.after st1
  · (first | exact nosome h | exact nofalse h | cases h)
theorem isi_ok {t : Ty} {x : V} {b : Bool} {v : Value} (I : Inv T w base σ H s.heap) (hv : VR s.heap σ x v) (e : tyOp t x = some b) : Ok prog w A (call (.builtin "isinstance") [v, tyVal t]) s (PE T w base σ s (.bool b) H) := by
  have keep : ∀ b o, s.heap.get? b = some o → s.heap.get? b = some o := fun _ _ e => e
  cases x with
  | none => cases hv; cases t <;> cases e <;> first
    | exact PySem.IsiPair.NoneType_int (PE.of I rfl) | exact PySem.IsiPair.NoneType_str (PE.of I rfl) | exact PySem.IsiPair.NoneType_tuple (PE.of I rfl) | exact PySem.IsiPair.NoneType_bool (PE.of I rfl)
  | bool c => cases hv; cases t <;> cases e <;> first
    | exact PySem.IsiPair.bool_int (PE.of I rfl) | exact PySem.IsiPair.bool_int (PE.of0 I rfl) | exact PySem.IsiPair.bool_str (PE.of I rfl) | exact PySem.IsiPair.bool_tuple (PE.of I rfl) | exact PySem.IsiPair.bool_bool (PE.of0 I rfl)
  | int i => obtain ⟨u, rfl⟩ := hv; cases t <;> cases e <;> first
    | exact PySem.IsiPair.int_int (PE.of0 I rfl) | exact PySem.IsiPair.int_str (PE.of I rfl) | exact PySem.IsiPair.int_tuple (PE.of I rfl) | exact PySem.IsiPair.int_bool (PE.of I rfl)
  | str y => obtain ⟨u, rfl⟩ := hv; cases t <;> cases e <;> first
    | exact PySem.IsiPair.str_int (PE.of I rfl) | exact PySem.IsiPair.str_str (PE.of0 I rfl) | exact PySem.IsiPair.str_tuple (PE.of I rfl) | exact PySem.IsiPair.str_bool (PE.of I rfl)
  | rng a c => cases t <;> (first | exact nosome e | exact nofalse e | cases e)
  | tup l => obtain ⟨a, items, rfl, h1, _, h2⟩ := hv; cases t <;> cases e <;> first
    | exact PySem.IsiPair.isTuple_int h1 keep (PE.of I rfl) | exact PySem.IsiPair.isTuple_str h1 keep (PE.of I rfl) | exact PySem.IsiPair.isTuple_tuple h1 keep (PE.of0 I rfl) | exact PySem.IsiPair.isTuple_bool h1 keep (PE.of I rfl)
  | lst l => obtain ⟨a, items, rfl, h1, _, h2⟩ := hv; cases t <;> cases e <;> first
    | exact PySem.IsiPair.isList_int h1 keep (PE.of I rfl) | exact PySem.IsiPair.isList_str h1 keep (PE.of I rfl) | exact PySem.IsiPair.isList_tuple h1 keep (PE.of I rfl) | exact PySem.IsiPair.isList_bool h1 keep (PE.of I rfl)
  | ref i => cases t <;> (first | exact nosome e | exact nofalse e | cases e)
set_option tactic.hygienic true in
theorem se_isi (GO : GlobOk base G T fa) {x t : Str} {ty : Ty} {e : Expr} {ir : E} {np tp pos : Pos} (hd : strEq x s_debug = false) (hk : isGlob env.scope x = true) (hx : strEq x s_isinstance = true) (hdt : strEq t s_debug = false) (hkt : isGlob env.scope t = true) (hty : tyOf t = some ty) (hs : notStar e = true) (he : SE prog w T base P C A nm env e ir) :
    SE prog w T base P C A nm env (.Call (.Name x np) [e, .Name t tp] [] pos) (.isi ir ty) := by
  intro ρ H v H' σ s h I Fm
  simp only [evE, e_cst, e_var, e_glob, e_nil, e_cons, e_tup, e_lst, e_lstH, e_dictH, e_and, e_or, e_not, e_neg, e_bin, e_cmp, e_cmp2, e_cmp3, e_ife, e_attr, e_sub, e_slice, e_rev, e_call, e_meth, e_new, e_sup, e_bm, e_bi, e_isi, e_comp, e_bvn] at h
  refine Classical.byContradiction fun hcon => ?_
  split at h
  · rename_i x1 H1 h1
    cases q : tyOp ty x1 with
    | none => rw [q] at h; (first | exact nosome h | exact nofalse h | cases h)
    | some b =>
      rw [q] at h; (first | exact nosome h | exact nofalse h | cases h)
      obtain ⟨mg, mb, GI⟩ := GO
      obtain rfl := strEq_iff.mp hx
      refine hcon ?_
      refine Call_ ((load_glob GI hd hk (.inr GI.isi) I Fm).to ?_)
      rintro _ _ ⟨rfl, rfl⟩
      rw [starEach_cons hs, starEach_cons (rfl : notStar (.Name t tp) = true)]
      refine callWith_of (keywords := []) (P := fun h => True) (by rfl) (fun h _ => keep_builtin _ h) ?_
      refine Calls.evalArgs_plain (spliced_snoc ((he ρ H x1 H' σ _ h1 I Fm).to ?_))
      rintro val s1 ⟨σ1, st1, I1, v1⟩
      refine spliced_snoc ((load_glob GI hdt hkt (.inr (GI.ty _ _ hty)) I1 (Fm.stp st1)).to ?_)
      rintro _ _ ⟨rfl, rfl⟩
      refine wpAny_pure ⟨trivial, ?_⟩
      exact (isi_ok I1 v1 q).to fun _ _ => PE.after st1
  · (first | exact nosome h | exact nofalse h | cases h)
set_option tactic.hygienic true in
theorem se_bvn {e : Expr} {ir : E} {k1 k2 : Nat} {p1 p2 p3 pos : Pos} (he : SE prog w T base P C A nm env e ir) :
    SE prog w T base P C A nm env (.JoinedStr [.Constant (.str s_bv1) k1 p1, .FormattedValue e (-1) none p2, .Constant (.str s_bv2) k2 p3] pos) (.bvn ir) := by
  intro ρ H v H' σ s h I Fm
  simp only [evE, e_cst, e_var, e_glob, e_nil, e_cons, e_tup, e_lst, e_lstH, e_dictH, e_and, e_or, e_not, e_neg, e_bin, e_cmp, e_cmp2, e_cmp3, e_ife, e_attr, e_sub, e_slice, e_rev, e_call, e_meth, e_new, e_sup, e_bm, e_bi, e_isi, e_comp, e_bvn] at h
  split at h
  · rename_i i H1 h1
    split at h
    · rename_i q
      first | (replace h := s3 h; obtain ⟨h1', h2', h3'⟩ := h; subst h1'; cases h2'; (first | exact nosome h3' | exact nofalse h3' | cases h3')) | (replace h := s2 h; obtain ⟨rfl, rfl⟩ := h) | (first | exact nosome h | exact nofalse h | cases h)
      have hlog : i.natAbs.log2 < 64 := by
        by_cases h0 : i.natAbs = 0
        · rw [h0]; decide +kernel
        · exact (Nat.log2_lt h0).mpr (small_lt q)
      have hlen := int_text_length_le (a := i) (k := 64) (by decide) hlog
      have hl2 : (Str.ofString (toString i)).length ≤ 65 := by rw [PySem.ofString_length]; exact hlen
      have b1 : (Str.empty ++ s_bv1).length = 10 := by decide +kernel
      have b2 : s_bv2.length = 1 := by decide +kernel
      refine JoinedStr_many ?_
      refine joinParts_cons (wpAny_mono (wpAny_mkText (s := s) (Q := fun v s' => v = .str s_bv1 s.toks ∧ s' = { s with toks := s.toks + 1 }) ⟨rfl, rfl⟩) ?_ fun _ _ x => x)
      rintro _ _ ⟨rfl, rfl⟩
      refine ⟨by rw [b1, sizeLine_eq]; omega, ?_⟩
      refine joinParts_cons (FormattedValue_plain ((he ρ H _ H' σ { s with toks := s.toks + 1 } h1 I Fm).to ?_))
      rintro val s1 ⟨σ1, st1, I1, t, rfl⟩
      refine formatField_int_small (by omega) ?_
      refine ⟨by rw [strLen_append, b1, sizeLine_eq]; omega, ?_⟩
      refine joinParts_cons (wpAny_mono (wpAny_mkText (s := { s1 with toks := s1.toks + 1 + 1 }) (Q := fun v s' => v = .str s_bv2 (s1.toks + 1 + 1) ∧ s' = { s1 with toks := s1.toks + 1 + 1 + 1 }) ⟨rfl, rfl⟩) ?_ fun _ _ x => x)
      rintro _ _ ⟨rfl, rfl⟩
      refine ⟨by rw [strLen_append, strLen_append, b1, b2, sizeLine_eq]; omega, ?_⟩
      refine joinParts_nil ?_ (by rw [strLen_append, strLen_append, b1, b2, sizeLine_eq]; omega)
      exact PE.after ((Stp.toks σ s (s.toks + 1)).trans st1) (PE.of (t := s1.toks + 1 + 1 + 1 + 1) I1 ⟨_, rfl⟩)
    · (first | exact nosome h | exact nofalse h | cases h)
  · (first | exact nosome h | exact nofalse h | cases h)
end
end Mine
set_option linter.unusedSimpArgs false
namespace Mine
open PySem PySem.W PyProof.Rows PySem.MeetsSeq PySem.SeqAt
inductive SEs (prog : Program) (w : World) (T : Tb) (base : Heap) (P : Pg) (C : CallT) (A : Around) (nm : Nm) (env : Env) : List Expr → E → Prop
  | nil : SEs prog w T base P C A nm env [] .nil
  | cons {e : Expr} {es : List Expr} {a b : E} : notStar e = true → SE prog w T base P C A nm env e a → SEs prog w T base P C A nm env es b → SEs prog w T base P C A nm env (e :: es) (.cons a b)
inductive KeysAre : List (Option Expr) → List Str → Prop
  | nil : KeysAre [] []
  | cons {x : Str} {k : Nat} {p : Pos} {l : List (Option Expr)} {r : List Str} : KeysAre l r → KeysAre (some (.Constant (.str x) k p) :: l) (x :: r)
section
variable {prog : Program} {w : World} {T : Tb} {base : Heap} {P : Pg} {C : CallT} {A : Around} {nm : Nm} {env : Env} {s : Shared} {σ : Sg} {ρ : Rho} {H : Hp} {K : Frag} {fa : List Addr} {n : Nat} {G : Gt}
theorem SEs.sl {es : List Expr} {ir : E} (h : SEs prog w T base P C A nm env es ir) : SL prog w T base P C A nm env es ir := by
  induction h with
  | nil => exact sl_nil
  | cons h1 h2 _ ih => exact sl_cons h1 h2 ih
set_option tactic.hygienic true in
theorem keys_are : ∀ {keys : List (Option Expr)} {ir : E}, cKeys keys = some ir → ∃ ss, KeysAre keys ss ∧ ∀ P C ρ H, evE P C ir ρ H = some (.lst (ss.map .str), H)
  | [], ir, h => by cases h; exact ⟨[], .nil, fun _ _ _ _ => rfl⟩
  | k :: l, ir, h => by
    unfold cKeys at h
    split at h
    · rename_i q; (first | exact nosome q | exact nofalse q | cases q)
    · rename_i x k' p l' q
      (first | exact nosome q | exact nofalse q | cases q)
      cases q : cKeys l with
      | none => rw [q] at h; (first | exact nosome h | exact nofalse h | cases h)
      | some r =>
        rw [q] at h; (first | exact nosome h | exact nofalse h | cases h)
        obtain ⟨ss, h1, h2⟩ := keys_are q
        refine ⟨x :: ss, .cons h1, fun P C ρ H => ?_⟩
        simp [evE, e_cons, e_cst, h2]
    · (first | exact nosome h | exact nofalse h | cases h)
theorem KeysAre.length {keys : List (Option Expr)} {ss : List Str} (h : KeysAre keys ss) : keys.length = ss.length := by
  induction h with
  | nil => rfl
  | cons _ ih => simp [ih]
theorem KeysAre.some {keys : List (Option Expr)} {ss : List Str} (h : KeysAre keys ss) : keys.all (·.isSome) = true := by
  induction h with
  | nil => rfl
  | cons _ ih => simp [ih]
set_option tactic.hygienic true in
theorem pairs_ok {vs : List Expr} {vir : E} (hs : SEs prog w T base P C A nm env vs vir) : ∀ {keys : List (Option Expr)} {ss : List Str}, KeysAre keys ss → keys.length = vs.length → ∀ {ρ : Rho} {H H' : Hp} {l : List V} {σ : Sg} {s : Shared} {pos : Pos}, evE P C vir ρ H = some (.lst l, H') → Inv T w base σ H s.heap → Frm nm env base s.heap σ ρ →
    Ok prog w A (evalPairs (pairTrees keys vs env pos)) s (fun ps s' => ∃ σ', Stp σ σ' s s' ∧ Inv T w base σ' H' s'.heap ∧ VRs s'.heap σ' (ss.map .str) (ps.map Prod.fst) ∧ VRs s'.heap σ' l (ps.map Prod.snd) ∧ ss.length = l.length) := by
  induction hs with
  | nil =>
    intro keys ss hk hl ρ H H' l σ s pos h I Fm
    cases hk with
    | cons _ => simp at hl
    | nil =>
      simp only [evE, Option.some.injEq, Prod.mk.injEq, V.lst.injEq, e_cst, e_var, e_glob, e_nil, e_cons, e_tup, e_lst, e_lstH, e_dictH, e_and, e_or, e_not, e_neg, e_bin, e_cmp, e_cmp2, e_cmp3, e_ife, e_attr, e_sub, e_slice, e_rev, e_call, e_meth, e_new, e_sup, e_bm, e_bi, e_isi, e_comp, e_bvn] at h
      obtain ⟨rfl, rfl⟩ := h
      exact pairTrees_nil_walk ⟨σ, .refl σ s, I, rfl, rfl, rfl⟩
  | cons hn he _ ih =>
    intro keys ss hk hl ρ H H' l σ s pos h I Fm
    cases hk with
    | nil => simp at hl
    | @cons x k p keys ss hk =>
      simp only [evE, e_cst, e_var, e_glob, e_nil, e_cons, e_tup, e_lst, e_lstH, e_dictH, e_and, e_or, e_not, e_neg, e_bin, e_cmp, e_cmp2, e_cmp3, e_ife, e_attr, e_sub, e_slice, e_rev, e_call, e_meth, e_new, e_sup, e_bm, e_bi, e_isi, e_comp, e_bvn] at h
      split at h
      · rename_i v H1 h1
        split at h
        · rename_i l' H2 h2
          first | (replace h := s3 h; obtain ⟨h1', h2', h3'⟩ := h; subst h1'; cases h2'; (first | exact nosome h3' | exact nofalse h3' | cases h3')) | (replace h := s2 h; obtain ⟨rfl, rfl⟩ := h) | (first | exact nosome h | exact nofalse h | cases h)
          refine pairTrees_cons_walk (wpAny_mono (wpAny_mkText (s := s) (Q := fun v s' => v = .str x s.toks ∧ s' = { s with toks := s.toks + 1 }) ⟨rfl, rfl⟩) ?_ fun _ _ x => x)
          rintro _ _ ⟨rfl, rfl⟩
          refine (he ρ H v H1 σ { s with toks := s.toks + 1 } h1 I Fm).to ?_
          rintro vv s1 ⟨σ1, st1, I1, v1⟩
          have st0 := (Stp.toks σ s (s.toks + 1)).trans st1
          refine (ih hk (by simpa using hl) h2 I1 (Fm.stp st0)).to ?_
          rintro ps s2 ⟨σ2, st2, I2, k2, v2, hl2⟩
          exact ⟨σ2, st0.trans st2, I2, .cons ⟨_, rfl⟩ k2, .cons (v1.stp st2) v2, by simp [hl2]⟩
        · (first | exact nosome h | exact nofalse h | cases h)
      · (first | exact nosome h | exact nofalse h | cases h)
theorem dput_len (k v : V) : ∀ l : List (V × V), (dput k v l).length ≤ l.length + 1
  | [] => Nat.le_refl _
  | p :: l => by
    unfold dput
    split
    · simp
    · have := dput_len k v l
      simp
      omega
theorem store_ok {d : Addr} (hu : A.units + 20 < cLine) (hn : ¬ Rng σ d) (hb : base.get? d = none) : ∀ {ps : List (Value × Value)} {ks vs : List V} {l : List (V × V)} {es : List DictEntry} {n : Nat} {s : Shared}, VRs s.heap σ ks (ps.map Prod.fst) → VRs s.heap σ vs (ps.map Prod.snd) → (∀ k ∈ ks, k.keyOk = true) →
    Inv T w base σ H s.heap → IsDictAt s.heap d es n → ER w s.heap σ l es → KNod l → l.length + ps.length ≤ cap →
    Ok prog w A (storeAll d ps) s (fun _ s' => ∃ h' t es' n', s' = { s with heap := h', toks := t } ∧ Heap.SameBut d s.heap h' ∧ Inv T w base σ H h' ∧ IsDictAt h' d es' n' ∧ ER w h' σ (mkDict ks vs l) es' ∧ KNod (mkDict ks vs l))
  | [], ks, vs, l, es, n, s, hk, hv, _, I, h1, h2, h3, _ => by
    have e1 : ks = [] := List.length_eq_zero_iff.mp (by rw [hk.length]; rfl)
    have e2 : vs = [] := List.length_eq_zero_iff.mp (by rw [hv.length]; rfl)
    subst e1 e2
    exact wpAny_pure ⟨s.heap, s.toks, es, n, rfl, .refl .., I, h1, h2, h3⟩
  | p :: ps, ks, vs, l, es, n, s, hk, hv, ho, I, h1, h2, h3, hl => by
    obtain ⟨k, ks, rfl⟩ : ∃ k r, ks = k :: r := by cases ks with | nil => have := hk.length; simp at this | cons k r => exact ⟨k, r, rfl⟩
    obtain ⟨v, vs, rfl⟩ : ∃ k r, vs = k :: r := by cases vs with | nil => have := hv.length; simp at this | cons k r => exact ⟨k, r, rfl⟩
    obtain ⟨kv, kr, hk0, hk1, hk2⟩ := hk
    obtain ⟨vv, vr, hv0, hv1, hv2⟩ := hv
    rw [List.map_cons] at hk0 hv0
    cases hk0; (first | exact nosome hv0 | exact nofalse hv0 | cases hv0)
    rw [List.length_cons] at hl
    show Ok prog w A (forIn (p :: ps) PUnit.unit _) s _
    rw [List.forIn_cons]
    refine wpAny_bind (wpAny_bind ((dictSet_ok (by omega) h1 h2 h3 (ho _ (.head _)) hk1 hv1 (by omega)).to ?_))
    rintro _ _ ⟨t, h', es', n', rfl, hs, hd, he⟩
    refine wpAny_pure ?_
    obtain ⟨J, kp⟩ := I.but h1 (fun im => im.1 _ _ rfl) hn hb hs
    have e0 : SExt σ σ s.heap := .refl ..
    have hlen : (dput k v l).length ≤ l.length + 1 := dput_len k v l
    refine (store_ok hu hn hb (s := { s with heap := h', toks := t }) (VRs.step kp e0 _ hk2) (VRs.step kp e0 _ hv2) (fun x hx => ho x (.tail _ hx)) J hd (he.step kp e0) (h3.put (ho _ (.head _)) (fun p hp => h2.keys p hp)) (by omega)).to ?_
    rintro _ _ ⟨h2', t2, es2, n2, rfl, hs2, J2, hd2, he2, hk2⟩
    exact ⟨h2', t2, es2, n2, rfl, hs.trans hs2, J2, hd2, he2, hk2⟩
theorem str_key (x : Str) : V.keyOk (.str x) = true := rfl
theorem dictNew_ok (I : Inv T w base σ H s.heap) {d : Addr} {es : List DictEntry} {n : Nat} {l : List (V × V)} {σ' : Sg} {H' : Hp} {s' : Shared} (hd0 : s.heap.get? d = none) (hg : mainGlobals < d) (st : Stp σ σ' s s') (J : Inv T w base σ' H' s'.heap) (hn : ¬ Rng σ' d) (hd : IsDictAt s'.heap d es n) (he : ER w s'.heap σ' l es) (hk : KNod l) :
    PE T w base σ s (.ref H'.length) (H' ++ [.dict l]) (.ref d) s' := by
  have hb : base.get? d = none := by
    cases z : base.get? d with
    | none => rfl
    | some o => have := I.stays _ _ z; rw [hd0] at this; (first | exact nosome this | exact nofalse this | cases this)
  have e : SExtI σ' (σ' ++ [some (d, d)]) s'.heap := by
    refine ⟨by simp, fun i hi => .inl ?_, fun b r => ?_⟩
    · rw [List.getElem?_append_left hi]
    · rcases rng_snoc.mp r with q | ⟨y, q⟩
      · exact .inl q
      · cases q; exact .inr fun o ho im => by rw [hd] at ho; cases ho; exact im.1 _ _ rfl
  have J2 := J.adopt (x := d) (d := d) (o := .dict l) hd (fun im => im.1 _ _ rfl) hn hb hg ⟨d, es, n, rfl, hd, he.stepI (fun b o e _ _ => e) e, hk⟩
  refine ⟨σ' ++ [some (d, d)], ⟨fun b o ho n => st.grow b o ho n, ⟨by have := st.ext.len; simp; omega, fun i hi => ?_, fun b r => ?_⟩, st.gens, st.drawn, st.os⟩, J2, by simp [J.len], d, rfl, fun p hp => ?_⟩
  · rw [List.getElem?_append_left (Nat.lt_of_lt_of_le hi st.ext.len)]
    exact st.ext.same i hi
  · rcases rng_snoc.mp r with q | ⟨y, q⟩
    · exact st.ext.fresh b q
    · cases q; exact .inr hd0
  · rw [J.len] at hp
    simp at hp
    rw [← hp]
set_option tactic.hygienic true in
theorem se_dict {keys : List (Option Expr)} {vs : List Expr} {kir vir : E} {pos : Pos} (hu : A.units + 20 < cLine) (hk : cKeys keys = some kir) (hs : SEs prog w T base P C A nm env vs vir) (hl : keys.length = vs.length) (h15 : vs.length ≤ 15) :
    SE prog w T base P C A nm env (.Dict keys vs pos) (.dictH kir vir) := by
  intro ρ H v H' σ s h I Fm
  obtain ⟨ss, hk1, hk2⟩ := keys_are hk
  simp only [evE, hk2, e_cst, e_var, e_glob, e_nil, e_cons, e_tup, e_lst, e_lstH, e_dictH, e_and, e_or, e_not, e_neg, e_bin, e_cmp, e_cmp2, e_cmp3, e_ife, e_attr, e_sub, e_slice, e_rev, e_call, e_meth, e_new, e_sup, e_bm, e_bi, e_isi, e_comp, e_bvn] at h
  split at h
  · rename_i l H1 h1
    first | (replace h := s3 h; obtain ⟨h1', h2', h3'⟩ := h; subst h1'; cases h2'; (first | exact nosome h3' | exact nofalse h3' | cases h3')) | (replace h := s2 h; obtain ⟨rfl, rfl⟩ := h) | (first | exact nosome h | exact nofalse h | cases h)
    have g := push_get s.heap ({ cls := .type "dict", data := .dict #[] } : Obj)
    have st0 : Stp σ σ s { s with heap := s.heap.push { cls := .type "dict", data := .dict #[] } } := .more (t := s.toks) g
    have I0 := I.more g
    have hd0 : (s.heap.push { cls := .type "dict", data := .dict #[] }).get? s.heap.objs.size = some (dictOf [] 0) := Heap.get?_push_size _ rfl
    cases hk1 with
    | nil =>
      have : vs = [] := List.length_eq_zero_iff.mp (by rw [← hl]; rfl)
      subst this
      have hl0 := hs.sl.len _ _ _ _ h1
      obtain rfl : l = [] := by simpa using hl0
      (first | exact nosome hs | exact nofalse hs | cases hs)
      simp only [evE, Option.some.injEq, Prod.mk.injEq, e_cst, e_var, e_glob, e_nil, e_cons, e_tup, e_lst, e_lstH, e_dictH, e_and, e_or, e_not, e_neg, e_bin, e_cmp, e_cmp2, e_cmp3, e_ife, e_attr, e_sub, e_slice, e_rev, e_call, e_meth, e_new, e_sup, e_bm, e_bi, e_isi, e_comp, e_bvn] at h1
      obtain ⟨_, rfl⟩ := h1
      exact wpAny_Dict_empty (dictNew_ok I (fresh_none _) I.newBig st0 I0 (I.notNew (fresh_none _)) hd0 rfl trivial)
    | @cons x0 k0 p0 l0 r0 hk1' =>
      have hk1 := KeysAre.cons (x := x0) (k := k0) (p := p0) hk1'
      refine wpAny_Dict_any hk1.some hl (by simp) (by rw [hl]; exact h15) ?_
      refine (pairs_ok hs hk1 hl h1 I0 (Fm.stp st0)).to ?_
      rintro ps s1 ⟨σ1, st1, I1, kr, vr, hlen⟩
      have hn : ¬ Rng σ1 s.heap.objs.size := st1.ext.notRng hd0 (I.notNew (fresh_none _))
      have hd1 := st1.grow _ _ hd0 (I.notNew (fresh_none _))
      have hb : base.get? s.heap.objs.size = none := by
        cases z : base.get? s.heap.objs.size with
        | none => rfl
        | some o => have := I.stays _ _ z; rw [fresh_none] at this; (first | exact nosome this | exact nofalse this | cases this)
      have hpl : ps.length ≤ 15 := by
        have e1 := vr.length
        have e2 := hs.sl.len _ _ _ _ h1
        rw [List.length_map] at e1
        omega
      refine (store_ok (l := []) hu hn hb kr vr (fun k hk => by obtain ⟨x, _, rfl⟩ := List.mem_map.mp hk; rfl) I1 hd1 rfl trivial (by unfold cap; rw [List.length_nil]; omega)).to ?_
      rintro _ _ ⟨h', t, es', n', rfl, hs', J, hd, he, hkn⟩
      have st2 : Stp σ σ1 s { s1 with heap := h', toks := t } := by
        have st := st0.trans st1
        refine ⟨fun b o ho n => ?_, st.ext, st.gens, st.drawn, st.os⟩
        have hne : b ≠ s.heap.objs.size := fun q => by rw [q, fresh_none] at ho; (first | exact nosome ho | exact nofalse ho | cases ho)
        exact (hs'.2 b hne).trans (st.grow b o ho n)
      exact dictNew_ok I (fresh_none _) I.newBig st2 J hn hd he hkn
  · (first | exact nosome h | exact nofalse h | cases h)
end
end Mine
set_option linter.unusedSimpArgs false
namespace Mine
open PySem PySem.W PyProof.Rows PySem.MeetsSeq PySem.SeqAt
theorem not_imm {o : Obj} (h : isIter o = true) : ¬ Imm o := fun im => by rw [im.2.2] at h; (first | exact nosome h | exact nofalse h | cases h)
theorem iter_list {o : Obj} (h : o.cls = .type "list_iterator") : isIter o = true := by unfold isIter; rw [h]; simp
theorem iter_tuple {o : Obj} (h : o.cls = .type "tuple_iterator") : isIter o = true := by unfold isIter; rw [h]; simp
theorem iter_range {o : Obj} (h : o.cls = .type "range_iterator") : isIter o = true := by unfold isIter; rw [h]; simp
noncomputable def ItAt (h : Heap) (σ : Sg) (J : Addr) (k : Nat) : V → Prop
  | .tup l => ∃ ax items, h.IsTupleIter J ax k ∧ h.IsTuple ax items ∧ ¬ Rng σ ax ∧ VRs h σ l items.toList
  | .lst l => ∃ ax items, h.IsListIter J ax k ∧ h.IsList ax items ∧ ¬ Rng σ ax ∧ VRs h σ l items.toList
  | .rng a b => IsRangeIter h J (a + (k : Int)) (((b - a).toNat : Int) - (k : Int)) 1
  | .ref i => ∃ ax, h.IsListIter J ax k ∧ i < σ.length ∧ ∀ p, σ[i]? = some (some p) → p.1 = ax
  | _ => False
noncomputable def IsItO (o : Obj) : Prop := isIter o = true ∧ ∃ vs, o.data = .fields vs
theorem ItAt.obj {h : Heap} {σ : Sg} {J : Addr} {k : Nat} : ∀ {x : V}, ItAt h σ J k x → ∃ o, h.get? J = some o ∧ IsItO o
  | .tup l, ⟨_, _, ⟨o, ho, hc, hd⟩, _⟩ => ⟨o, ho, iter_tuple hc, _, hd⟩
  | .lst l, ⟨_, _, ⟨o, ho, hc, hd⟩, _⟩ => ⟨o, ho, iter_list hc, _, hd⟩
  | .rng a b, hr => ⟨_, hr, iter_range rfl, _, rfl⟩
  | .ref i, ⟨_, ⟨o, ho, hc, hd⟩, _⟩ => ⟨o, ho, iter_list hc, _, hd⟩
theorem ItAt.step {h h' : Heap} {σ σ' : Sg} {J : Addr} {k : Nat} (g : KeepI σ h h') (e : SExt σ σ' h) (hJ : ∀ o, h.get? J = some o → h'.get? J = some o) : ∀ {x : V}, ItAt h σ J k x → ItAt h' σ' J k x
  | .tup l, ⟨ax, items, ⟨o, ho, hc⟩, ⟨o', ho', hc', n, hd⟩, hn, hv⟩ => ⟨ax, items, ⟨o, hJ _ ho, hc⟩, ⟨o', g _ _ ho' hn (imm_seq hd (isIter_ty hc' rfl)), hc', n, hd⟩, e.notRng ho' hn, hv.step g e⟩
  | .lst l, ⟨ax, items, ⟨o, ho, hc⟩, ⟨o', ho', hc', n, hd⟩, hn, hv⟩ => ⟨ax, items, ⟨o, hJ _ ho, hc⟩, ⟨o', g _ _ ho' hn (imm_seq hd (isIter_ty hc' rfl)), hc', n, hd⟩, e.notRng ho' hn, hv.step g e⟩
  | .rng a b, hr => hJ _ hr
  | .ref i, ⟨ax, ⟨o, ho, hc⟩, hi, hp⟩ => ⟨ax, ⟨o, hJ _ ho, hc⟩, Nat.lt_of_lt_of_le hi e.len, fun p hp' => by
      rcases e.same i hi with q | q
      · exact hp p (q ▸ hp')
      · rw [q] at hp'; cases hp'⟩
section
variable {T : Tb} {w : World} {base h h' : Heap} {σ : Sg} {H : Hp}
theorem Inv.butE (I : Inv T w base σ H h) {a : Addr} {o : Obj} (ho : h.get? a = some o) (hi : ¬ Imm o) (hn : ¬ Rng σ a) (hb : base.get? a = none) (hs : ∀ b x, b ≠ a → h.get? b = some x → h'.get? b = some x) : Inv T w base σ H h' ∧ KeepI σ h h' := by
  have k : KeepI σ h h' := fun b x e _ im => by
    by_cases q : b = a
    · subst q; rw [ho] at e; (first | (replace e := s3 e; obtain ⟨h1', h2', h3'⟩ := e; subst h1'; cases h2'; (first | exact nosome h3' | exact nofalse h3' | cases h3')) | (replace e := s2 e; obtain ⟨rfl, rfl⟩ := e) | (first | exact nosome e | exact nofalse e | cases e)); exact absurd im hi
    · exact hs b x q e
  refine ⟨⟨fun b x e => ?_, I.fresh, I.glob, I.len, I.inj, fun i x p e q => ?_⟩, k⟩
  · by_cases q : b = a
    · subst q; rw [hb] at e; (first | exact nosome e | exact nofalse e | cases e)
    · exact hs b x q (I.stays b x e)
  · have z := I.hr i x p e q
    refine z.step k (.refl ..) fun y d hp => ?_
    subst hp
    obtain ⟨u, hu⟩ := z.there
    rw [hu]
    exact hs d u (fun z => hn (z ▸ rng_of q)) hu
end
section
variable {prog : Program} {w : World} {T : Tb} {base : Heap} {P : Pg} {C : CallT} {A : Around} {nm : Nm} {env : Env} {s : Shared} {σ : Sg} {ρ : Rho} {H : Hp} {K : Frag} {fa : List Addr} {n : Nat} {G : Gt}
set_option tactic.hygienic true in
theorem iter_ok {x : V} {v : Value} {r : Option V} (I : Inv T w base σ H s.heap) (hx : VR s.heap σ x v) (e : srcAt H x 0 = some r) :
    Ok prog w A (pyIter v) s fun it s' => ∃ o, isIter o = true ∧ s' = { s with heap := s.heap.push o } ∧ it = .ref s.heap.objs.size ∧ ItAt s'.heap σ s.heap.objs.size 0 x := by
  have up : ∀ o b x, s.heap.get? b = some x → (s.heap.push o).get? b = some x := fun o b x => push_get s.heap o b x
  cases x with
  | tup l =>
    obtain ⟨a, items, rfl, ht, hn, hv⟩ := hx
    refine wpAny_pyIter_tuple ht ⟨_, iter_tuple rfl, rfl, rfl, a, items, ⟨_, Heap.get?_push_size _ rfl, rfl, rfl⟩, ht.push _, hn, hv.step (Grow.keepI fun b o e _ => up _ b o e) (.refl ..)⟩
  | lst l =>
    obtain ⟨a, items, rfl, ht, hn, hv⟩ := hx
    refine wpAny_pyIter_list ht ⟨_, iter_list rfl, rfl, rfl, a, items, ⟨_, Heap.get?_push_size _ rfl, rfl, rfl⟩, ht.push _, hn, hv.step (Grow.keepI fun b o e _ => up _ b o e) (.refl ..)⟩
  | rng a b =>
    obtain ⟨q, t, u, c, rfl, hr, hn⟩ := hx
    simp only [srcAt] at e
    split at e
    · rename_i hc
      simp only [Bool.and_eq_true, Nat.ble_eq, tiny, Nat.blt_eq] at hc
      obtain ⟨⟨h1, h2⟩, h3⟩ := hc
      have sm : Builtin.Range.small a b 1 = true := by
        unfold Builtin.Range.small Builtin.Range.rangeFitsLong
        rw [rangeSize_nat]
        simp only [Bool.and_eq_true, Bool.or_eq_true, decide_eq_true_eq]
        refine ⟨⟨⟨⟨⟨by omega, by omega⟩, ⟨by omega, by omega⟩⟩, ⟨by omega, by omega⟩⟩, ⟨by omega, by omega⟩⟩, .inr ?_⟩
        simp only [show (1 : Int) > 0 from by omega, if_true, Bool.and_eq_true, decide_eq_true_eq]
        exact ⟨by omega, by omega⟩
      refine wpAny_pyIter_range hr sm ⟨_, iter_range rfl, rfl, rfl, ?_⟩
      rw [rangeSize_nat]
      show IsRangeIter _ _ (a + ((0 : Nat) : Int)) (((b - a).toNat : Int) - ((0 : Nat) : Int)) 1
      rw [show a + ((0 : Nat) : Int) = a by omega, show (((b - a).toNat : Int) - ((0 : Nat) : Int)) = ((b - a).toNat : Int) by omega]
      exact Heap.get?_push_size _ rfl
    · (first | exact nosome e | exact nofalse e | cases e)
  | ref i =>
    simp only [srcAt] at e
    split at e
    · rename_i l hl
      obtain ⟨p, hp, ho⟩ := I.at hl
      obtain ⟨a, items, rfl, hpl, hv⟩ := ho
      have := hx.refAt hp
      subst this
      obtain ⟨hi, a', ha', hpp⟩ := hx
      refine wpAny_pyIter_list hpl.isList ⟨_, iter_list rfl, rfl, rfl, a, ⟨_, Heap.get?_push_size _ rfl, rfl, rfl⟩, hi, fun p' hp' => ?_⟩
      rw [hp] at hp'; cases hp'; rfl
    · (first | exact nosome e | exact nofalse e | cases e)
  | _ => (first | exact nosome e | exact nofalse e | cases e)
noncomputable def NextR (h : Heap) (σ : Sg) (J : Addr) (k : Nat) (x : V) : Option V → Option Value → Prop
  | none, q => q = none
  | some y, q => ∃ v, q = some v ∧ VR h σ y v ∧ ItAt h σ J (k + 1) x
set_option tactic.hygienic true in
theorem next_ok (hh : A.handled = none) {x : V} {J : Addr} {k : Nat} {r : Option V} (I : Inv T w base σ H s.heap) (hi : ItAt s.heap σ J k x) (hJ : ¬ Rng σ J) (e : srcAt H x k = some r) :
    Ok prog w A (pyNext (.ref J)) s fun q s' => (∀ b o, b ≠ J → s.heap.get? b = some o → s'.heap.get? b = some o) ∧ (∃ h t, s' = { s with heap := h, toks := t }) ∧ NextR s'.heap σ J k x r q := by
  obtain ⟨oJ, hoJ, hiJ, _⟩ := hi.obj
  have kp : ∀ {h' : Heap}, (∀ b o, b ≠ J → s.heap.get? b = some o → h'.get? b = some o) → KeepI σ s.heap h' := fun g b o e _ im => g b o (fun q => by subst q; rw [hoJ] at e; (first | (replace e := s3 e; obtain ⟨h1', h2', h3'⟩ := e; subst h1'; cases h2'; (first | exact nosome h3' | exact nofalse h3' | cases h3')) | (replace e := s2 e; obtain ⟨rfl, rfl⟩ := e) | (first | exact nosome e | exact nofalse e | cases e)); exact not_imm hiJ im) e
  cases x with
  | tup l =>
    obtain ⟨ax, items, hit, ht, hn, hv⟩ := hi
    simp only [srcAt] at e
    split at e
    · (first | exact nosome e | exact nofalse e | cases e)
      cases hk : l[k]? with
      | none =>
        refine wpAny_pyNext_tuple_end hh hit ht (by have := hv.length; simp at hk ⊢; simp at this; omega) fun h' he => ⟨fun b o hb => he b o hb, ⟨_, _, rfl⟩, rfl⟩
      | some y =>
        obtain ⟨v, hv1, hv2⟩ := hv.get hk
        refine wpAny_pyNext_tuple_item hit ht (x := v) (by simpa using hv1) fun h' hit' hs' => ?_
        have g : ∀ b o, b ≠ J → s.heap.get? b = some o → h'.get? b = some o := fun b o hb e => hs'.extBut b o hb e
        have nx : ax ≠ J := fun q => by
          obtain ⟨o, ho, hc, _⟩ := ht; subst q; rw [hoJ] at ho; (first | exact nosome ho | exact nofalse ho | cases ho)
          rw [isIter_ty hc rfl] at hiJ; (first | exact nosome hiJ | exact nofalse hiJ | cases hiJ)
        exact ⟨g, ⟨_, _, rfl⟩, v, rfl, hv2.step (kp g) (.refl ..), ax, items, hit', ht.extBut hs'.extBut nx, hn, hv.step (kp g) (.refl ..)⟩
    · (first | exact nosome e | exact nofalse e | cases e)
  | lst l =>
    obtain ⟨ax, items, hit, ht, hn, hv⟩ := hi
    simp only [srcAt] at e
    split at e
    · (first | exact nosome e | exact nofalse e | cases e)
      cases hk : l[k]? with
      | none =>
        refine wpAny_pyNext_list_end hh hit ht (by have := hv.length; simp at hk ⊢; simp at this; omega) fun h' he => ⟨fun b o hb => he b o hb, ⟨_, _, rfl⟩, rfl⟩
      | some y =>
        obtain ⟨v, hv1, hv2⟩ := hv.get hk
        refine wpAny_pyNext_list_item hit ht (x := v) (by simpa using hv1) fun h' hit' hs' => ?_
        have g : ∀ b o, b ≠ J → s.heap.get? b = some o → h'.get? b = some o := fun b o hb e => hs'.extBut b o hb e
        have nx : ax ≠ J := fun q => by
          obtain ⟨o, ho, hc, _⟩ := ht; subst q; rw [hoJ] at ho; (first | exact nosome ho | exact nofalse ho | cases ho)
          rw [isIter_ty hc rfl] at hiJ; (first | exact nosome hiJ | exact nofalse hiJ | cases hiJ)
        exact ⟨g, ⟨_, _, rfl⟩, v, rfl, hv2.step (kp g) (.refl ..), ax, items, hit', ht.extBut hs'.extBut nx, hn, hv.step (kp g) (.refl ..)⟩
    · (first | exact nosome e | exact nofalse e | cases e)
  | rng a b =>
    have hi : IsRangeIter s.heap J (a + (k : Int)) (((b - a).toNat : Int) - (k : Int)) 1 := hi
    simp only [srcAt] at e
    split at e
    · (first | exact nosome e | exact nofalse e | cases e)
      split
      · rename_i hlt
        rw [Nat.blt_eq] at hlt
        refine wpAny_pyNext_range_item hi (by omega) fun h' hit' hs' => ?_
        refine ⟨fun b o hb e => hs'.extBut b o hb e, ⟨_, _, rfl⟩, _, rfl, ⟨_, rfl⟩, ?_⟩
        show IsRangeIter h' J (a + ((k + 1 : Nat) : Int)) (((b - a).toNat : Int) - ((k + 1 : Nat) : Int)) 1
        rw [show a + ((k + 1 : Nat) : Int) = a + (k : Int) + 1 by omega, show (((b - a).toNat : Int) - ((k + 1 : Nat) : Int)) = ((b - a).toNat : Int) - (k : Int) - 1 by omega]
        exact hit'
      · rename_i hlt
        rw [Nat.blt_eq] at hlt
        exact wpAny_pyNext_range_end hh hi (by omega) fun h' he => ⟨fun b o hb => he b o hb, ⟨_, _, rfl⟩, rfl⟩
    · (first | exact nosome e | exact nofalse e | cases e)
  | ref i =>
    obtain ⟨ax, hit, hi', hp'⟩ := hi
    simp only [srcAt] at e
    split at e
    · rename_i l hl
      split at e
      · (first | exact nosome e | exact nofalse e | cases e)
        obtain ⟨p, hp, ho⟩ := I.at hl
        obtain ⟨a, items, rfl, hpl, hv⟩ := ho
        have hax : a = ax := hp' (a, a) hp
        subst hax
        cases hk : l[k]? with
        | none =>
          refine wpAny_pyNext_list_end hh hit hpl.isList (by have := hv.length; simp at hk ⊢; simp at this; omega) fun h' he => ⟨fun b o hb => he b o hb, ⟨_, _, rfl⟩, rfl⟩
        | some y =>
          obtain ⟨v, hv1, hv2⟩ := hv.get hk
          refine wpAny_pyNext_list_item hit hpl.isList (x := v) (by simpa using hv1) fun h' hit' hs' => ?_
          have g : ∀ b o, b ≠ J → s.heap.get? b = some o → h'.get? b = some o := fun b o hb e => hs'.extBut b o hb e
          exact ⟨g, ⟨_, _, rfl⟩, v, rfl, hv2.step (kp g) (.refl ..), a, hit', hi', hp'⟩
      · (first | exact nosome e | exact nofalse e | cases e)
    · (first | exact nosome e | exact nofalse e | cases e)
  | _ => (first | exact nosome e | exact nofalse e | cases e)
end
end Mine
set_option linter.unusedSimpArgs false
namespace Mine
open PySem PySem.W PyProof.Rows PySem.MeetsSeq PySem.SeqAt PyProof.Rows.LCg
section
variable {σ σ' σ'' : Sg} {s s' s'' : Shared}
theorem Stp.viaO {O : Addr → Prop} (a : Stp σ σ' s s') (b : StpO O σ' σ'' s' s'') (ho : ∀ c, O c → ∀ o, s.heap.get? c = some o → Rng σ c) : Stp σ σ'' s s'' := by
  refine ⟨fun x o hx n => b.grow x o (a.grow x o hx n) (a.ext.notRng hx n) fun q => ?_, ?_, b.gens.trans a.gens, b.drawn.trans a.drawn, b.os.trans a.os⟩
  · exact n (ho x q _ hx)
  · refine ⟨Nat.le_trans a.ext.len b.ext.len, fun i hi => ?_, fun d r => ?_⟩
    · rcases b.ext.same i (Nat.lt_of_lt_of_le hi a.ext.len) with q | q
      · rw [q]; exact a.ext.same i hi
      · exact .inr q
    · rcases b.ext.fresh d r with q | q
      · exact a.ext.fresh d q
      · by_cases n : Rng σ d
        · exact .inl n
        · cases z : s.heap.get? d with
          | none => exact .inr rfl
          | some o => have := a.grow d o z n; rw [q] at this; (first | exact nosome this | exact nofalse this | cases this)
theorem StpO.butE {J : Addr} {h : Heap} {t : Nat} (hs : ∀ b o, b ≠ J → s.heap.get? b = some o → h.get? b = some o) : StpO (fun a => a = J) σ σ s { s with heap := h, toks := t } :=
  ⟨fun b o e _ n => hs b o n e, .refl .., rfl, rfl, rfl⟩
end
theorem Frm.less {nm : Nm} {env : Env} {base h : Heap} {σ : Sg} {ρ ρ' : Rho} (F : Frm nm env base h σ ρ) (hl : ∀ (i : Nat) (v : V), ρ'[i]? = some (some v) → ρ[i]? = some (some v)) : Frm nm env base h σ ρ' := by
  obtain ⟨m, hm, hv⟩ := F.ns
  refine ⟨F.kind, F.glob, F.blt, F.locN, F.locB, ⟨m, hm, fun x i hx hk v hr => hv x i hx hk v (hl _ _ hr)⟩, fun x i hx hk => ?_, F.apart, F.inj⟩
  obtain ⟨c, hc, hn, hb, cv, hcell, hv'⟩ := F.cells x i hx hk
  exact ⟨c, hc, hn, hb, cv, hcell, fun v hr => hv' v (hl _ _ hr)⟩
theorem Frm.butE {nm : Nm} {env : Env} {base h h' : Heap} {σ : Sg} {ρ : Rho} (F : Frm nm env base h σ ρ) {J : Addr} {o : Obj} (ho : h.get? J = some o) (hi : IsItO o) (hs : ∀ b x, b ≠ J → h.get? b = some x → h'.get? b = some x) : Frm nm env base h' σ ρ := by
  have k : KeepI σ h h' := fun b x e _ im => hs b x (fun q => by subst q; rw [ho] at e; (first | (replace e := s3 e; obtain ⟨h1', h2', h3'⟩ := e; subst h1'; cases h2'; (first | exact nosome h3' | exact nofalse h3' | cases h3')) | (replace e := s2 e; obtain ⟨rfl, rfl⟩ := e) | (first | exact nosome e | exact nofalse e | cases e)); exact not_imm hi.1 im) e
  obtain ⟨m, ⟨om, es, ep, hom, hd, hr⟩, hv⟩ := F.ns
  refine ⟨F.kind, F.glob, F.blt, F.locN, F.locB, ⟨m, ⟨om, es, ep, hs _ _ (fun q => ?_) hom, hd, hr⟩, fun x i hx hk v hr => ?_⟩, fun x i hx hk => ?_, F.apart, F.inj⟩
  · subst q; rw [ho] at hom; cases hom; obtain ⟨vs, e⟩ := hi.2; rw [e] at hd; (first | exact nosome hd | exact nofalse hd | cases hd)
  · obtain ⟨val, h1, h2⟩ := hv x i hx hk v hr
    exact ⟨val, h1, h2.step k (.refl ..)⟩
  · obtain ⟨c, hc, hn, hb, cv, ⟨oc, hoc, hd⟩, hv'⟩ := F.cells x i hx hk
    refine ⟨c, hc, hn, hb, cv, ⟨oc, hs _ _ (fun q => ?_) hoc, hd⟩, fun v hr => ?_⟩
    · subst q; rw [ho] at hoc; cases hoc; obtain ⟨vs, e⟩ := hi.2; rw [e] at hd; (first | exact nosome hd | exact nofalse hd | cases hd)
    · obtain ⟨val, h1, h2⟩ := hv' v hr
      exact ⟨val, h1, h2.step k (.refl ..)⟩
theorem look_map (f : Str → NameKind → NameKind) (x : Str) : ∀ l : List (Str × NameKind), (l.map fun (n, k) => (n, f n k)).lookup x = (l.lookup x).map (f x)
  | [] => rfl
  | (n, k) :: l => by
    simp only [List.map_cons, List.lookup_cons]
    cases h : x == n with
    | true => simp [beq_iff_eq.mp h]
    | false => simpa using look_map f x l
theorem relabel_look (csc : Scope) (env : Env) (x : Str) : (relabel csc env).names.lookup x = (csc.names.lookup x).map fun k => if (k == .free && env.scope.kind == .function && env.kindOf x == some .cell) then .cell else k := by
  have := look_map (fun n k => if (k == .free && env.scope.kind == .function && env.kindOf n == some .cell) then .cell else k) x csc.names
  rw [← this]
  show (csc.names.map fun (n, k) => if (k == .free && env.scope.kind == .function && env.kindOf n == some .cell) then (n, .cell) else (n, k)).lookup x = _
  congr 1
  refine List.map_congr_left ?_
  rintro ⟨n, k⟩ _
  dsimp only
  split <;> rfl
theorem relab_is (csc : Scope) (env : Env) : relab env.scope csc = relabel csc env := rfl
set_option tactic.hygienic true in
theorem look_mem {x : Str} {k : NameKind} : ∀ {l : List (Str × NameKind)}, l.lookup x = some k → (x, k) ∈ l
  | [], h => by (first | exact nosome h | exact nofalse h | cases h)
  | (n, k') :: l, h => by
    simp only [List.lookup_cons] at h
    split at h
    · rename_i q; (first | (replace h := s3 h; obtain ⟨h1', h2', h3'⟩ := h; subst h1'; cases h2'; (first | exact nosome h3' | exact nofalse h3' | cases h3')) | (replace h := s2 h; obtain ⟨rfl, rfl⟩ := h) | (first | exact nosome h | exact nofalse h | cases h)); rw [beq_iff_eq.mp q]; exact .head _
    · exact .tail _ (look_mem h)
structure ScOk (outer csc : Scope) (nm nm1 : Nm) (tg : Expr) : Prop where
  kind : csc.kind = .function
  cell : ∀ x ∈ csc.names, x.2 ≠ .cell
  self : ∀ x ∈ csc.names, csc.names.lookup x.1 = some x.2
  free : ∀ x ∈ csc.names, x.2 = .free → outer.names.lookup x.1 = some .cell ∧ ∃ i, nfind x.1 nm = some i
  own : ∀ x ∈ csc.names, x.2 = .local → x.1 = s_dot0 ∨ hasS x.1 (tgNames tg) = true
  inj : ∀ x y i, nfind x nm1 = some i → nfind y nm1 = some i → x = y
  dot : nfind s_dot0 nm1 = none
  same : ∀ x i, nfind x nm1 = some i → csc.names.lookup x = some .local ∨ nfind x nm = some i
set_option tactic.hygienic true in
theorem nfind_mem {x : Str} {i : Nat} : ∀ {nm : Nm}, nfind x nm = some i → (x, i) ∈ nm
  | [], h => by (first | exact nosome h | exact nofalse h | cases h)
  | p :: l, h => by
    unfold nfind at h
    split at h
    · rename_i q; (first | (replace h := s3 h; obtain ⟨h1', h2', h3'⟩ := h; subst h1'; cases h2'; (first | exact nosome h3' | exact nofalse h3' | cases h3')) | (replace h := s2 h; obtain ⟨rfl, rfl⟩ := h) | (first | exact nosome h | exact nofalse h | cases h)); rw [← strEq_iff.mp q]; exact .head _
    · exact .tail _ (nfind_mem h)
theorem noDup_inj {i : Nat} {x y : Str} : ∀ {l : Nm}, noDup (l.map (·.2)) = true → (x, i) ∈ l → (y, i) ∈ l → x = y
  | [], _, h, _ => by (first | exact nosome h | exact nofalse h | cases h)
  | p :: l, hd, hx, hy => by
    simp only [List.map_cons, noDup, Bool.and_eq_true, Bool.not_eq_true', List.any_eq_false] at hd
    obtain ⟨h1, h2⟩ := hd
    rcases List.mem_cons.mp hx with e | hx'
    · rcases List.mem_cons.mp hy with e' | hy'
      · rw [← e] at e'; cases e'; rfl
      · rw [← e] at h1; exact absurd (Nat.beq_refl i) (h1 i (List.mem_map.mpr ⟨(y, i), hy', rfl⟩))
    · rcases List.mem_cons.mp hy with e' | hy'
      · rw [← e'] at h1; exact absurd (Nat.beq_refl i) (h1 i (List.mem_map.mpr ⟨(x, i), hx', rfl⟩))
      · exact noDup_inj h2 hx' hy'
theorem scOk_of {outer csc : Scope} {nm nm1 : Nm} {tg : Expr} (h1 : okScope outer csc nm = true) (h2 : okComp nm csc nm1 tg = true) : ScOk outer csc nm nm1 tg := by
  unfold okScope at h1
  unfold okComp at h2
  simp only [Bool.and_eq_true, beq_iff_eq, List.all_eq_true, Bool.or_eq_true, bne_iff_ne, ne_eq, Prod.forall] at h1 h2
  obtain ⟨⟨⟨hk, _⟩, _⟩, hn⟩ := h1
  obtain ⟨⟨⟨ho, hd⟩, hz⟩, hs⟩ := h2
  refine ⟨hk, fun x hx => (hn _ _ hx).1.1, fun x hx => (hn _ _ hx).1.2, fun x hx hf => ?_, fun x hx hl => ?_, fun x y i hx hy => noDup_inj hd (nfind_mem hx) (nfind_mem hy), Option.isNone_iff_eq_none.mp hz, fun x i hx => hs _ _ (nfind_mem hx)⟩
  · rcases (hn _ _ hx).2 with q | ⟨q, r⟩
    · exact absurd hf q
    · exact ⟨q, Option.isSome_iff_exists.mp r⟩
  · rcases ho _ _ hx with (q | q) | q
    · exact absurd hl q
    · exact .inl (strEq_iff.mp q)
    · exact .inr q
noncomputable def closOf (env : Env) : List (Str × NameKind) → List (Str × Addr) → List (Str × Addr)
  | [], acc => acc
  | (n, k) :: l, acc => match k == .free, env.cells.lookup n with
    | true, some a => closOf env l ((n, a) :: acc)
    | _, _ => closOf env l acc
theorem clos_eq {env : Env} : ∀ (l : List (Str × NameKind)) (acc : List (Str × Addr)), (∀ x ∈ l, x.2 = .free → ∃ a, env.cells.lookup x.1 = some a) →
    (forIn l acc fun (x : Str × NameKind) (cs : List (Str × Addr)) => if (x.2 == .free) = true then (do let a ← cellOf env x.1; pure (ForInStep.yield ((x.1, a) :: cs))) else pure (ForInStep.yield cs) : Sem (List (Str × Addr))) = pure (closOf env l acc)
  | [], acc, _ => rfl
  | (n, k) :: l, acc, h => by
    rw [List.forIn_cons]
    have ih := fun acc => clos_eq (env := env) l acc fun x hx => h x (.tail _ hx)
    cases q : k == .free with
    | true =>
      obtain ⟨a, ha⟩ := h _ (.head _) (beq_iff_eq.mp q)
      simp only [q, if_true, closOf, ha, cellOf, pure_bind]
      exact ih _
    | false =>
      simp only [q, Bool.false_eq_true, if_false, closOf, pure_bind]
      exact ih _
set_option tactic.hygienic true in
theorem clos_look {env : Env} {x : Str} {a : Addr} : ∀ (l : List (Str × NameKind)) (acc : List (Str × Addr)), (closOf env l acc).lookup x = some a → acc.lookup x = some a ∨ env.cells.lookup x = some a
  | [], acc, h => .inl h
  | (n, k) :: l, acc, h => by
    unfold closOf at h
    split at h
    · rename_i b hk hb
      rcases clos_look l _ h with q | q
      · simp only [List.lookup_cons] at q
        split at q
        · rename_i e; cases q; rw [beq_iff_eq.mp e]; exact .inr hb
        · exact .inl q
      · exact .inr q
    · exact clos_look l _ h
set_option tactic.hygienic true in
theorem clos_keep {env : Env} {x : Str} : ∀ (l : List (Str × NameKind)) (acc : List (Str × Addr)) {a : Addr}, env.cells.lookup x = some a → acc.lookup x = some a → (closOf env l acc).lookup x = some a
  | [], acc, _, _, h => h
  | (n, k) :: l, acc, a, ha, h => by
    unfold closOf
    split
    · rename_i b hk hb
      refine clos_keep l _ ha ?_
      simp only [List.lookup_cons]
      split
      · rename_i e; rw [beq_iff_eq.mp e] at ha; rw [ha] at hb; rw [hb]
      · exact h
    · exact clos_keep l _ ha h
set_option tactic.hygienic true in
theorem clos_has {env : Env} {x : Str} {a : Addr} (ha : env.cells.lookup x = some a) : ∀ (l : List (Str × NameKind)) (acc : List (Str × Addr)), (x, NameKind.free) ∈ l → (closOf env l acc).lookup x = some a
  | [], acc, h => by (first | exact nosome h | exact nofalse h | cases h)
  | (n, k) :: l, acc, h => by
    unfold closOf
    rcases List.mem_cons.mp h with e | h
    · (first | exact nosome e | exact nofalse e | cases e)
      split
      · rename_i b hk hb
        refine clos_keep l _ ha ?_
        rw [ha] at hb; (first | exact nosome hb | exact nofalse hb | cases hb)
        simp
      · rename_i hn
        exact absurd ha (hn a (by decide))
    · split
      · exact clos_has ha l _ h
      · exact clos_has ha l _ h
theorem closure_eq {env : Env} {csc : Scope} (h : ∀ x ∈ csc.names, x.2 = .free → ∃ a, env.cells.lookup x.1 = some a) : closureFor csc env = pure (closOf env csc.names []) := by
  unfold closureFor
  refine Eq.trans (?_ : _ = (forIn csc.names [] _ >>= fun s => pure s)) ((bind_pure _).trans (clos_eq csc.names [] h))
  rfl
theorem comp_frame {nm nm1 : Nm} {env : Env} {base h : Heap} {σ : Sg} {ρ ρ' : Rho} {csc : Scope} {tg : Expr} {Cd : Addr} {m : Str → Option Value} (F : Frm nm env base h σ ρ) (S : ScOk env.scope csc nm nm1 tg)
    (hC : ¬ Rng σ Cd) (hb : base.get? Cd = none) (hm : h.Ns Cd m) (hl : ∀ (i : Nat) (v : V), ρ'[i]? = some (some v) → ρ[i]? = some (some v)) (h0 : ∀ x i, nfind x nm1 = some i → csc.names.lookup x = some .local → ∀ v, ρ'[i]? ≠ some (some v)) :
    Frm nm1 (compEnvC csc (closOf env csc.names []) Cd env) base h σ ρ' := by
  refine ⟨S.kind, F.glob, F.blt, hC, hb, ⟨m, hm, fun x i hx hk v hr => ?_⟩, fun x i hx hk => ?_, fun x y c hx hy => ?_, S.inj⟩
  · have hk : (relabel csc env).names.lookup x = some .local := hk
    rw [relabel_look] at hk
    cases q : csc.names.lookup x with
    | none => rw [q] at hk; (first | exact nosome hk | exact nofalse hk | cases hk)
    | some k =>
      rw [q] at hk
      simp only [Option.map_some, Option.some.injEq] at hk
      split at hk
      · (first | exact nosome hk | exact nofalse hk | cases hk)
      · subst hk; exact absurd hr (h0 x i hx q v)
  · have hk : (relabel csc env).names.lookup x = some .cell ∨ (relabel csc env).names.lookup x = some .free := hk
    rw [relabel_look] at hk
    cases q : csc.names.lookup x with
    | none => rw [q] at hk; rcases hk with hk | hk <;> (first | exact nosome hk | exact nofalse hk | cases hk)
    | some k =>
      have hmem := look_mem q
      have hfree : k = .free := by
        have hc := S.cell _ hmem
        rw [q] at hk
        cases k with
        | free => rfl
        | cell => exact absurd rfl hc
        | _ => rcases hk with hk | hk <;> (first | exact nosome hk | exact nofalse hk | cases hk)
      subst hfree
      obtain ⟨h1, i', h2⟩ := S.free _ hmem rfl
      have h2 : nfind x nm = some i := by
        rcases S.same x i hx with e | e
        · rw [q] at e; (first | exact nosome e | exact nofalse e | cases e)
        · exact e
      obtain ⟨c, hc, hn, hbc, cv, hcell, hv'⟩ := F.cells x i h2 (.inl h1)
      exact ⟨c, clos_has hc _ _ hmem, hn, hbc, cv, hcell, fun v hr => hv' v (hl _ _ hr)⟩
  · refine F.apart x y c ?_ ?_
    · rcases clos_look _ _ hx with e | e
      · (first | exact nosome e | exact nofalse e | cases e)
      · exact e
    · rcases clos_look _ _ hy with e | e
      · (first | exact nosome e | exact nofalse e | cases e)
      · exact e
end Mine
set_option linter.unusedSimpArgs false
namespace Mine
open PySem PySem.W PyProof.Rows PySem.MeetsSeq PySem.SeqAt PyProof.Rows.LCg
section
variable {prog : Program} {w : World} {A : Around} {s : Shared}
theorem comp_loop0 {elt target iter : Expr} {ifs : List Expr} {scope : Scope} {pos : Pos} {it acc : Value} {env : Env} {R : Result → Shared → Prop} (I : Nat → Shared → Prop)
    (turn : ∀ n s, I n s → Ok prog w A (pyNext it) s fun r s₁ => match r with
      | none => R (.ok .next) s₁
      | some v => Ok prog w A (letOwnedTupleGo target it v) s₁ fun _ s₀ => Ok prog w A (assign target env v) s₀ fun _ s₂ =>
          Ok prog w A (forIn ifs true fun c r => if r = true then do let ok ← isTrue c env (eval c env); pure (ForInStep.yield ok) else pure (ForInStep.yield r)) s₂ fun ok s₃ => if ok = true then Ok prog w A (eval elt env) s₃ fun x s₄ =>
            Ok prog w A (call (.builtin "list.append") [acc, x]) s₄ fun _ s₅ => ∃ m, m < n ∧ I m s₅
            else ∃ m, m < n ∧ I m s₃)
    (n : Nat) (h : I n s) : codeAny (model prog w) A (.compLoop (.ListComp elt [⟨target, iter, ifs, 0⟩] scope pos) 0 it acc env) R s := by
  refine codeAny_loop rfl I (fun n s hI => ?_) n h
  show wpAny _ A ((compTurn (.ListComp elt [⟨target, iter, ifs, 0⟩] scope pos) 0 it acc env).onRaise (fun x => do noteFrame x env; theTreesLotGoes x)) _ _ s
  refine wpAny_noted ?_
  rw [compTurn_list]
  refine wpAny_bind (wpAny_standAt (wpAny_bind ((turn n s hI).to fun r s₁ h₁ => ?_)))
  cases r with
  | none => exact wpAny_pure h₁
  | some v =>
    refine wpAny_bind (Ok.to h₁ fun _ s₀ h₀ => ?_)
    refine wpAny_bind (Ok.to h₀ fun _ s₂ h₂ => ?_)
    refine wpAny_bind (Ok.to h₂ fun okb s₃ h₃ => ?_)
    cases okb with
    | false => exact wpAny_pure ⟨rfl, h₃⟩
    | true => exact wpAny_bind (wpAny_bind (Ok.to h₃ fun x s₄ h₄ => wpAny_bind (Ok.to h₄ fun _ s₅ h₅ => wpAny_pure (wpAny_pure ⟨rfl, h₅⟩))))
theorem ok_assign_Name {env : Env} {x : Str} {pos : Pos} {v : Value} {Q : Unit → Shared → Prop} (h : Ok prog w A (bindName env x v) s Q) : Ok prog w A (assign (.Name x pos) env v) s Q := by
  show wpAny _ _ _ _ _ _
  rw [PySem.assign_Name]; exact wpAny_bind (wpAny_standAt h)
end
noncomputable def clearT (tg : Tg) (ρ : Rho) : Rho := match tg with
  | .one i => ρ.set i none
theorem set_clear (ρ : Rho) (i j : Nat) (a : Option V) : ((ρ.set i a).set j none).set i a = (ρ.set i a).set j none ∨ i = j := by
  by_cases h : i = j
  · exact .inr h
  · refine .inl ?_
    rw [List.set_comm _ _ (Ne.symm h), List.set_set]
theorem bind_clear (tg : Tg) (y : V) (ρ : Rho) : bindT tg y (clearT tg ρ) = bindT tg y ρ := by
  cases tg with
  | one i => simp [bindT, clearT, List.set_set]
theorem clear_less {tg : Tg} {ρ : Rho} {i : Nat} {v : V} (h : (clearT tg ρ)[i]? = some (some v)) : ρ[i]? = some (some v) := by
  cases tg with
  | one j =>
    simp only [clearT, List.getElem?_set] at h
    split at h
    · split at h <;> (first | exact nosome h | exact nofalse h | cases h)
    · exact h
set_option tactic.hygienic true in
theorem set_less {ρ ρ' : Rho} (h : ∀ (i : Nat) (v : V), ρ[i]? = some (some v) → ρ'[i]? = some (some v)) (j : Nat) (a : Option V) (i : Nat) (v : V) (e : (ρ.set j none)[i]? = some (some v)) : (ρ'.set j a)[i]? = some (some v) := by
  rw [List.getElem?_set] at e ⊢
  split at e
  · split at e <;> (first | exact nosome e | exact nofalse e | cases e)
  · rename_i q
    rw [if_neg q]
    exact h i v e
theorem bind_less {tg : Tg} {y : V} {ρ ρ1 : Rho} (hb : bindT tg y ρ = some ρ1) (i : Nat) (v : V) (e : (clearT tg ρ)[i]? = some (some v)) : ρ1[i]? = some (some v) := by
  cases tg with
  | one j => cases hb; exact set_less (fun _ _ h => h) j _ i v e
section
variable {prog : Program} {w : World} {T : Tb} {base : Heap} {P : Pg} {C : CallT} {A : Around} {nm : Nm} {env : Env} {s : Shared} {σ : Sg} {ρ : Rho} {H : Hp} {K : Frag} {fa : List Addr} {n : Nat} {G : Gt}
theorem Frm.locO {h : Heap} (F : Frm nm env base h σ ρ) : ∃ o, h.get? env.locals = some o ∧ ¬ Imm o := by
  obtain ⟨_, _, o⟩ := F.own (.inl rfl); exact o
set_option tactic.hygienic true in
theorem assign_tg (hh : A.handled = none) {tge : Expr} {tg : Tg} {y : V} {v : Value} {ρ1 : Rho} (ht : cTg env.scope nm tge = some tg) (I : Inv T w base σ H s.heap) (F : Frm nm env base s.heap σ ρ) (hv : VR s.heap σ y v) (hb : bindT tg y ρ = some ρ1) :
    Ok prog w A (assign tge env v) s fun _ s' => StpO (fun a => a = env.locals) σ σ s s' ∧ Inv T w base σ H s'.heap ∧ Frm nm env base s'.heap σ ρ1 := by
  unfold cTg at ht
  split at ht
  · rename_i x px
    split at ht
    · rename_i hk
      obtain ⟨i, hi, rfl⟩ := Option.map_eq_some_iff.mp ht
      (first | exact nosome hb | exact nofalse hb | cases hb)
      exact ok_assign_Name (store_local hi (beq_iff_eq.mp hk) I F hv)
    · (first | exact nosome ht | exact nofalse ht | cases ht)
  · (first | exact nosome ht | exact nofalse ht | cases ht)
end
end Mine
set_option linter.unusedSimpArgs false
namespace Mine
open PySem PySem.W PyProof.Rows PySem.MeetsSeq PySem.SeqAt PyProof.Rows.LCg
noncomputable def bodyOf (P : Pg) (C : CallT) (elt : E) (tg : Tg) (cond : E) (ρ : Rho) (x : V) (H : Hp) : Option (Option V × Hp) := match bindT tg x ρ with
  | some ρ1 => match evE P C cond ρ1 H with
    | some (.bool true, H) => match evE P C elt ρ1 H with
      | some (v, H) => some (some v, H)
      | Option.none => Option.none
    | some (.bool false, H) => some (Option.none, H)
    | _ => Option.none
  | Option.none => Option.none
theorem srcAt_app {H l : Hp} {x : V} {k : Nat} (h : ∀ i, x = .ref i → i < H.length) : srcAt (H ++ l) x k = srcAt H x k := by
  cases x with
  | ref i => simp only [srcAt]; rw [List.getElem?_append_left (h i rfl)]
  | _ => rfl
theorem foldedSet {iter : Expr} (h : notSet iter = true) (env : Env) (x : Value) : foldedSetIterable iter env x = pure x := by
  cases iter <;> first | rfl | (first | exact nosome h | exact nofalse h | cases h)
section
variable {prog : Program} {w : World} {T : Tb} {base : Heap} {P : Pg} {C : CallT} {A : Around} {nm nm1 : Nm} {env : Env} {s : Shared} {σ : Sg} {ρ : Rho} {H : Hp} {K : Frag} {fa : List Addr} {n : Nat} {G : Gt}
theorem iter_self {x : V} {J : Addr} {k : Nat} {Q : Value → Shared → Prop} (hi : ItAt s.heap σ J k x) (h : Q (.ref J) s) : Ok prog w A (pyIter (.ref J)) s Q := by
  cases x with
  | tup l => obtain ⟨_, _, hit, _⟩ := hi; exact wpAny_pyIter_tupleiter hit h
  | lst l => obtain ⟨_, _, hit, _⟩ := hi; exact wpAny_pyIter_listiter hit h
  | rng a b => exact wpAny_pyIter_rangeiter hi h
  | ref i => obtain ⟨_, hit, _⟩ := hi; exact wpAny_pyIter_listiter hit h
  | _ => (first | exact nosome hi | exact nofalse hi | cases hi)
set_option tactic.hygienic true in
theorem Inv.kill {h : Heap} (I : Inv T w base σ H h) {j : Nat} {l : List V} {D : Addr} (hj : H[j]? = some (.list l)) (hD : VR h σ (.ref j) (.ref D)) :
    Inv T w base (σ.set j none) (H.set j .dead) h ∧ SExt σ (σ.set j none) h ∧ VR h (σ.set j none) (.lst l) (.ref D) := by
  obtain ⟨p, hp, ho⟩ := I.at hj
  obtain ⟨a, items, rfl, hpl, hv⟩ := ho
  have : a = D := hD.2.elim fun a' q => by cases q.1; exact q.2 (a, a) hp
  subst this
  have sub : ∀ d, Rng (σ.set j none) d → Rng σ d := fun d ⟨x, hx⟩ => by
    obtain ⟨i, hi⟩ := List.getElem?_of_mem hx
    rw [List.getElem?_set] at hi
    split at hi
    · split at hi <;> (first | exact nosome hi | exact nofalse hi | cases hi)
    · exact rng_of hi
  have ex : SExt σ (σ.set j none) h := ⟨by simp, fun i hi => by
    rw [List.getElem?_set]
    split
    · split
      · exact .inr rfl
      · rename_i q1 q2; subst q1; exact absurd hi q2
    · exact .inl rfl, fun d r => .inl (sub d r)⟩
  refine ⟨⟨I.stays, fun d r => I.fresh d (sub d r), I.glob, by simp [I.len], fun i k x y d hi hk => ?_, fun i o p hi hp' => ?_⟩, ex, a, items, rfl, hpl.isList, fun r => ?_, hv.step (fun _ _ e _ _ => e) ex⟩
  · rw [List.getElem?_set] at hi hk
    split at hi
    · split at hi <;> (first | exact nosome hi | exact nofalse hi | cases hi)
    · split at hk
      · split at hk <;> (first | exact nosome hk | exact nofalse hk | cases hk)
      · exact I.inj i k x y d hi hk
  · rw [List.getElem?_set] at hi hp'
    by_cases q : j = i
    · subst q
      have h1 : j < H.length := lt_of_get hj
      have h2 : j < σ.length := by rw [← I.len]; exact h1
      simp only [if_true, h1, h2] at hi hp'
      cases hi; (first | exact nosome hp' | exact nofalse hp' | cases hp')
      rfl
    · simp only [q, if_false] at hi hp'
      exact (I.hr i o p hi hp').step (fun _ _ e _ _ => e) ex fun x d hq => rfl
  · obtain ⟨i, x, hi⟩ := rng_iff.mp r
    rw [List.getElem?_set] at hi
    split at hi
    · split at hi <;> (first | exact nosome hi | exact nofalse hi | cases hi)
    · rename_i q
      exact q (I.inj j i a x a hp hi)
inductive CondOk (prog : Program) (w : World) (T : Tb) (base : Heap) (P : Pg) (C : CallT) (A : Around) (nm : Nm) (env : Env) : List Expr → E → Prop
  | nil : CondOk prog w T base P C A nm env [] (.cst (.bool true))
  | one {c : Expr} {e : E} : SB prog w T base P C A nm env c e → CondOk prog w T base P C A nm env [c] e
theorem cond_ok {ifs : List Expr} {ec : E} (h : CondOk prog w T base P C A nm env ifs ec) {b : Bool} {H' : Hp} (e : evE P C ec ρ H = some (.bool b, H')) (I : Inv T w base σ H s.heap) (F : Frm nm env base s.heap σ ρ) :
    Ok prog w A (forIn ifs true fun c r => if r = true then do let ok ← isTrue c env (eval c env); pure (ForInStep.yield ok) else pure (ForInStep.yield r)) s (PB T w base σ s b H') := by
  cases h with
  | nil =>
    simp only [evE, Option.some.injEq, Prod.mk.injEq, V.bool.injEq, e_cst, e_var, e_glob, e_nil, e_cons, e_tup, e_lst, e_lstH, e_dictH, e_and, e_or, e_not, e_neg, e_bin, e_cmp, e_cmp2, e_cmp3, e_ife, e_attr, e_sub, e_slice, e_rev, e_call, e_meth, e_new, e_sup, e_bm, e_bi, e_isi, e_comp, e_bvn] at e
    obtain ⟨rfl, rfl⟩ := e
    exact wpAny_tests_nil ⟨rfl, σ, .refl .., I⟩
  | one hb => exact wpAny_tests_one (hb _ _ _ _ _ _ e I F)
theorem letgo_ok {tge : Expr} {tg : Tg} {x y : V} {v : Value} {J : Addr} {k : Nat} {ρ1 : Rho} {h : Heap} (ht : cTg env.scope nm tge = some tg) (ho : okTg tg x = true) (hi : ItAt s.heap σ J k x) (hv : VR h σ y v) (hb : bindT tg y ρ = some ρ1) :
    Ok prog w A (letOwnedTupleGo tge (.ref J) v) s fun _ s' => s' = s := by
  unfold cTg at ht
  split at ht
  · exact wpAny_pure rfl
  · (first | exact nosome ht | exact nofalse ht | cases ht)
set_option tactic.hygienic true in
theorem clear_own {csc : Scope} {sc1 : Scope} {tge : Expr} {tg : Tg} (S : ScOk env.scope csc nm nm1 tge) (ht : cTg sc1 nm1 tge = some tg) {y : Str} {i : Nat} (hy : nfind y nm1 = some i) (hyl : csc.names.lookup y = some .local) (v : V) : (clearT tg ρ)[i]? ≠ some (some v) := by
  intro hr
  unfold cTg at ht
  rcases S.own _ (look_mem hyl) rfl with q | q
  · have q : y = s_dot0 := q
    rw [q, S.dot] at hy; (first | exact nosome hy | exact nofalse hy | cases hy)
  · have q : hasS y (tgNames tge) = true := q
    split at ht
    · rename_i tx _
      split at ht
      · obtain ⟨j, hj, rfl⟩ := Option.map_eq_some_iff.mp ht
        simp only [tgNames, hasS, Bool.or_false] at q
        have := strEq_iff.mp q
        subst this
        rw [hy] at hj; (first | exact nosome hj | exact nofalse hj | cases hj)
        simp only [clearT, List.getElem?_set] at hr
        split at hr
        · split at hr <;> (first | exact nosome hr | exact nofalse hr | cases hr)
        · rename_i z; first | exact z rfl | exact z trivial
      · (first | exact nosome ht | exact nofalse ht | cases ht)
    · (first | exact nosome ht | exact nofalse ht | cases ht)
structure CompI (T : Tb) (w : World) (base : Heap) (nm1 : Nm) (cenv : Env) (σ : Sg) (s : Shared) (go : Nat → Nat → Hp → Option Hp) (ρ0 : Rho) (x : V) (J D : Addr) (j : Nat) (H2 : Hp) (k : Nat) (m : Nat) (H' : Hp) (σ' : Sg) (s' : Shared) : Prop where
  run : go m k H' = some H2
  st : Stp σ σ' s s'
  inv : Inv T w base σ' H' s'.heap
  it : ItAt s'.heap σ' J k x
  nJ : ¬ Rng σ' J
  frm : Frm nm1 cenv base s'.heap σ' ρ0
  acc : VR s'.heap σ' (.ref j) (.ref D)
set_option tactic.hygienic true in
theorem comp_turn {elt tge : Expr} {ifs : List Expr} {cenv : Env} {ex ec : E} {tg : Tg} {x : V} {H2 : Hp} {J D : Addr} {j k m : Nat} {H' : Hp} {σ' : Sg} {s' : Shared} {R : Result → Shared → Prop} (hh : A.handled = none) (hu : A.units + 20 < cLine) (hok : okTg tg x = true)
    (ht : cTg cenv.scope nm1 tge = some tg) (hx : SE prog w T base P C A nm1 cenv elt ex) (hc : CondOk prog w T base P C A nm1 cenv ifs ec)
    (hbJ : base.get? J = none) (hsJ : ∀ o, s.heap.get? J = some o → Rng σ J) (hsC : ∀ o, s.heap.get? cenv.locals = some o → Rng σ cenv.locals)
    (hR : ∀ s' σ', Stp σ σ' s s' → Inv T w base σ' H2 s'.heap → Frm nm1 cenv base s'.heap σ' (clearT tg ρ) → VR s'.heap σ' (.ref j) (.ref D) → R (.ok .next) s')
    (h : CompI T w base nm1 cenv σ s (compGo (bodyOf P C ex tg ec ρ) x j) (clearT tg ρ) x J D j H2 k m H' σ' s') :
    Ok prog w A (pyNext (.ref J)) s' fun r s₁ => match r with
      | none => R (.ok .next) s₁
      | some v => Ok prog w A (letOwnedTupleGo tge (.ref J) v) s₁ fun _ s₀ => Ok prog w A (assign tge cenv v) s₀ fun _ s₂ =>
          Ok prog w A (forIn ifs true fun c r => if r = true then do let ok ← isTrue c cenv (eval c cenv); pure (ForInStep.yield ok) else pure (ForInStep.yield r)) s₂ fun ok s₃ => if ok = true then Ok prog w A (eval elt cenv) s₃ fun x' s₄ =>
            Ok prog w A (call (.builtin "list.append") [.ref D, x']) s₄ fun _ s₅ => ∃ m', m' < m ∧ ∃ k H' σ', CompI T w base nm1 cenv σ s (compGo (bodyOf P C ex tg ec ρ) x j) (clearT tg ρ) x J D j H2 k m' H' σ' s₅
            else ∃ m', m' < m ∧ ∃ k H' σ', CompI T w base nm1 cenv σ s (compGo (bodyOf P C ex tg ec ρ) x j) (clearT tg ρ) x J D j H2 k m' H' σ' s₃ := by
  obtain ⟨hg, st, I', hi, nJ', F', vD⟩ := h
  obtain ⟨oJ', hoJ', hiJ'⟩ := hi.obj
  cases m with
  | zero => (first | exact nosome hg | exact nofalse hg | cases hg)
  | succ m =>
    unfold compGo at hg
    split at hg
    · rename_i y hy
      refine (next_ok hh I' hi nJ' hy).to ?_
      rintro q s5 ⟨g5, ⟨h5, t5, rfl⟩, v, rfl, hv, hi5⟩
      obtain ⟨I5, k5⟩ := I'.butE hoJ' (not_imm hiJ'.1) nJ' hbJ g5
      have st5 := st.viaO (StpO.butE (t := t5) g5) fun c hc => hc ▸ hsJ
      have F5 := F'.butE hoJ' hiJ' g5
      have vD5 : VR h5 σ' (.ref j) (.ref D) := vD
      cases hbd : bodyOf P C ex tg ec ρ y H' with
      | none => rw [hbd] at hg; (first | exact nosome hg | exact nofalse hg | cases hg)
      | some rr =>
        rw [hbd] at hg
        obtain ⟨r, H6⟩ := rr
        unfold bodyOf at hbd
        split at hbd
        case h_2 => (first | exact nosome hbd | exact nofalse hbd | cases hbd)
        rename_i ρ1 hb
        refine (letgo_ok ht hok hi5 hv hb).to ?_
        rintro _ _ rfl
        refine (assign_tg hh ht I5 F5 hv (by rw [bind_clear]; exact hb)).to ?_
        rintro _ s6 ⟨st6, I6, F6⟩
        have st6' := st5.viaO st6 fun c hc => hc ▸ hsC
        obtain ⟨oJ5, hoJ5, hiJ5⟩ := hi5.obj
        have hne : J ≠ cenv.locals := fun q => by
          obtain ⟨m0, ⟨o0, es0, ep0, ho0, hd0, _⟩, _⟩ := F5.ns
          rw [← q, hoJ5] at ho0; (first | exact nosome ho0 | exact nofalse ho0 | cases ho0)
          obtain ⟨vs, e⟩ := hiJ5.2
          rw [e] at hd0; (first | exact nosome hd0 | exact nofalse hd0 | cases hd0)
        have k6 : KeepI σ' h5 s6.heap := fun b o e n im => st6.grow b o e n fun q => by
          obtain ⟨o', ho', ni⟩ := F5.locO
          subst q; rw [e] at ho'; cases ho'; exact ni im
        have hi6 : ItAt s6.heap σ' J (k + 1) x := hi5.step k6 st6.ext fun o e => st6.grow _ _ e nJ' hne
        have vD6 : VR s6.heap σ' (.ref j) (.ref D) := vD
        obtain ⟨oJ6, hoJ6, hiJ6⟩ := hi6.obj
        split at hbd
        · rename_i H5 hcnd
          split at hbd
          case h_2 => (first | exact nosome hbd | exact nofalse hbd | cases hbd)
          rename_i u H7 hel
          (first | exact nosome hbd | exact nofalse hbd | cases hbd)
          dsimp only at hg
          split at hg
          case h_2 => (first | exact nosome hg | exact nofalse hg | cases hg)
          rename_i l hl
          split at hg
          case isFalse => (first | exact nosome hg | exact nofalse hg | cases hg)
          rename_i hlen
          refine (cond_ok hc hcnd I6 F6).to ?_
          rintro ok s7 ⟨rfl, σ7, st7, I7⟩
          show Ok prog w A (eval elt cenv) s7 _
          refine (hx ρ1 H5 u H6 σ7 s7 hel I7 (F6.stp st7)).to ?_
          rintro val s8 ⟨σ8, st8, I8, v8⟩
          have st78 := st7.trans st8
          have vD8 : VR s8.heap σ8 (.ref j) (.ref D) := vD6.stp st78
          refine (bm_ok (op := .append) (x := .ref j) (l := [u]) (v := .none) (H' := H6.set j (.list (l ++ [u]))) hu I8 vD8 (VRs.cons v8 (show VRs s8.heap σ8 [] [] from rfl)) ?_).to ?_
          · simp only [bmop, ref1, arg1, listAt, ifO, hl, hlen]
          rintro _ s9 ⟨σ9, st9, I9, v9⟩
          have st69 := st78.trans st9
          have nJ8 : ¬ Rng σ9 J := st69.ext.notRng hoJ6 nJ'
          exact ⟨m, Nat.lt_succ_self _, k + 1, _, σ9, hg, st6'.trans st69, I9, hi6.step st69.grow.keepI st69.ext fun o e => st69.grow _ _ e nJ', nJ8, (F6.stp st69).less fun i v hr => bind_less hb i v hr, vD6.stp st69⟩
        · rename_i H5 hcnd
          (first | exact nosome hbd | exact nofalse hbd | cases hbd)
          dsimp only at hg
          refine (cond_ok hc hcnd I6 F6).to ?_
          rintro ok s7 ⟨rfl, σ7, st7, I7⟩
          show ∃ m', _
          exact ⟨m, Nat.lt_succ_self _, k + 1, _, σ7, hg, st6'.trans st7, I7, hi6.step st7.grow.keepI st7.ext fun o e => st7.grow _ _ e nJ', st7.ext.notRng hoJ6 nJ', (F6.stp st7).less fun i v hr => bind_less hb i v hr, vD6.stp st7⟩
        · (first | exact nosome hbd | exact nofalse hbd | cases hbd)
    · rename_i hy
      first | (replace hg := s3 hg; obtain ⟨h1', h2', h3'⟩ := hg; subst h1'; cases h2'; (first | exact nosome h3' | exact nofalse h3' | cases h3')) | (replace hg := s2 hg; obtain ⟨rfl, rfl⟩ := hg) | (first | exact nosome hg | exact nofalse hg | cases hg)
      refine (next_ok hh I' hi nJ' hy).to ?_
      rintro q s5 ⟨g5, ⟨h5, t5, rfl⟩, rfl⟩
      obtain ⟨I5, k5⟩ := I'.butE hoJ' (not_imm hiJ'.1) nJ' hbJ g5
      have st5 := st.viaO (StpO.butE (t := t5) g5) fun c hc => hc ▸ hsJ
      exact hR _ σ' st5 I5 (F'.butE hoJ' hiJ' g5) vD
    · (first | exact nosome hg | exact nofalse hg | cases hg)
set_option tactic.hygienic true in
theorem comp_any {iter elt tge : Expr} {ifs : List Expr} {csc : Scope} {pos ipos : Pos} {use : Option (Value → Sem Unit)} {Q : Value → Shared → Prop} {iri ex ec : E} {tg : Tg} {x : V} {vs : List V} {H1 H2 : Hp} (hh : A.handled = none) (hu : A.units + 20 < cLine) (hns : notSet iter = true)
    (hit : SE prog w T base P C A nm env iter iri) (S : ScOk env.scope csc nm nm1 tge) (ht : cTg (relab env.scope csc) nm1 tge = some tg)
    (hx : ∀ cl Cd, SE prog w T base P C A nm1 (compEnvC csc cl Cd env) elt ex) (hc : ∀ cl Cd, CondOk prog w T base P C A nm1 (compEnvC csc cl Cd env) ifs ec)
    (h1 : evE P C iri ρ H = some (x, H1)) (h2 : compOver tg (bodyOf P C ex tg ec ρ) x H1 = some (vs, H2)) (I : Inv T w base σ H s.heap) (Fm : Frm nm env base s.heap σ ρ)
    (hend : ∀ D Cd s' σ', Stp σ σ' s s' → Inv T w base σ' H2 s'.heap → H2[H1.length]? = some (.list vs) → VR s'.heap σ' (.ref H1.length) (.ref D) → (∀ o, s.heap.get? Cd = some o → Rng σ Cd) → (∃ m, s'.heap.Ns Cd m) → ¬ Rng σ' Cd → base.get? Cd = none →
      compPost (model prog w) A (fun _ _ => False) use Q (.ref D) Cd (.ok .next) s') :
    Ok prog w A (comprehension (.ListComp elt [⟨tge, iter, ifs, 0⟩] csc pos) csc env ipos (newList []) false (eval iter env) use) s Q := by
  have hclos : closureFor csc env = pure (closOf env csc.names []) := closure_eq fun y hy hf => by
    obtain ⟨q1, i, q2⟩ := S.free y hy hf
    obtain ⟨c, hc, _⟩ := Fm.cells y.1 i q2 (.inl q1)
    exact ⟨c, hc⟩
  unfold compOver at h2
  split at h2
  case h_2 => (first | exact nosome h2 | exact nofalse h2 | cases h2)
  rename_i hok
  split at h2
  case h_2 => (first | exact nosome h2 | exact nofalse h2 | cases h2)
  rename_i H2' hgo
  split at h2
  case h_2 => (first | exact nosome h2 | exact nofalse h2 | cases h2)
  rename_i l hl
  (first | exact nosome h2 | exact nofalse h2 | cases h2)
  refine wpAny_comprehension_free (use := use) rfl (foldedSet hns env) hclos S.kind (fun y hy hl => by rw [S.self y hy, hl]) ((hit ρ H x H1 σ s h1 I Fm).to ?_)
  rintro xv s1 ⟨σ1, st1, I1, v1⟩
  have hlt : ∀ i, x = .ref i → i < H1.length := fun i q => by subst q; rw [I1.len]; exact v1.1
  have hsrc : ∃ r, srcAt H1 x 0 = some r := by
    rw [← srcAt_app (l := [.list []]) hlt]
    have hgo' := hgo
    unfold compGo at hgo'
    split at hgo'
    · rename_i q; exact ⟨_, q⟩
    · rename_i q; exact ⟨_, q⟩
    · (first | exact nosome hgo' | exact nofalse hgo' | cases hgo')
  obtain ⟨r0, hr0⟩ := hsrc
  refine (iter_ok I1 v1 hr0).to ?_
  rintro it s2 ⟨o, hoi, rfl, rfl, hi2⟩
  generalize hJ : s1.heap.objs.size = J at hi2 ⊢
  have hJ1 : s1.heap.get? J = none := hJ ▸ fresh_none _
  have g2 : ∀ b x, s1.heap.get? b = some x → (s1.heap.push o).get? b = some x := push_get _ _
  have st2 : Stp σ σ1 s { s1 with heap := s1.heap.push o } := st1.trans (Stp.more (t := s1.toks) g2)
  have I2 := I1.more g2
  have nJ : ¬ Rng σ1 J := I1.notNew hJ1
  obtain ⟨oJ, hoJ, hiJ⟩ := hi2.obj
  refine (newListH_ok (l := []) (vals := []) I2 rfl (Nat.zero_le _)).to ?_
  rintro acc s3 ⟨σ3, st3', I3, v3⟩
  obtain ⟨_, D, rfl, _⟩ := id v3
  have st3 := st2.trans st3'
  have nJ3 : ¬ Rng σ3 J := st3'.ext.notRng hoJ nJ
  have hoJ3 : s3.heap.get? J = some oJ := st3'.grow _ _ hoJ nJ
  have hi3 : ItAt s3.heap σ3 J 0 x := hi2.step st3'.grow.keepI st3'.ext fun o e => by rw [hoJ] at e; (first | (replace e := s3 e; obtain ⟨h1', h2', h3'⟩ := e; subst h1'; cases h2'; (first | exact nosome h3' | exact nofalse h3' | cases h3')) | (replace e := s2 e; obtain ⟨rfl, rfl⟩ := e) | (first | exact nosome e | exact nofalse e | cases e)); exact hoJ3
  refine wpAny_newFunctionEnv S.cell (by intro y hy; simp at hy) (fun h' hns' hsb' => ?_) S.kind
  generalize hC : s3.heap.objs.size = Cd at hns' hsb' ⊢
  have hCd : s3.heap.get? Cd = none := hC ▸ fresh_none _
  have g4 : ∀ b x, s3.heap.get? b = some x → h'.get? b = some x := fun b x e => (hsb'.2 b fun q => by rw [q, hCd] at e; (first | exact nosome e | exact nofalse e | cases e)).trans (push_get _ _ b x e)
  have st4 : Stp σ σ3 s { s3 with heap := h', toks := s3.toks + 0 } := st3.trans (Stp.more g4)
  have I4 := I3.more g4
  have nC : ¬ Rng σ3 Cd := I3.notNew hCd
  have hbC : base.get? Cd = none := by
    cases z : base.get? Cd with
    | none => rfl
    | some o => rw [I3.stays _ _ z] at hCd; (first | exact nosome hCd | exact nofalse hCd | cases hCd)
  have hbJ : base.get? J = none := by
    cases z : base.get? J with
    | none => rfl
    | some o => rw [I1.stays _ _ z] at hJ1; (first | exact nosome hJ1 | exact nofalse hJ1 | cases hJ1)
  have hsJ : ∀ o, s.heap.get? J = some o → Rng σ J := fun o z => by
    by_cases n : Rng σ J
    · exact n
    · rw [st1.grow _ _ z n] at hJ1; (first | exact nosome hJ1 | exact nofalse hJ1 | cases hJ1)
  have hsC : ∀ o, s.heap.get? Cd = some o → Rng σ Cd := fun o z => by
    by_cases n : Rng σ Cd
    · exact n
    · rw [st3.grow _ _ z n] at hCd; (first | exact nosome hCd | exact nofalse hCd | cases hCd)
  have F4 : Frm nm1 (compEnvC csc (closOf env csc.names []) Cd env) base h' σ3 (clearT tg ρ) :=
    comp_frame (Fm.stp st4) S nC hbC hns' (fun i v => clear_less) fun y i hy hyl v hr => clear_own S ht hy hyl v hr
  have hi4 : ItAt h' σ3 J 0 x := hi3.step (fun b o e _ _ => g4 b o e) (.refl ..) fun o e => g4 _ _ e
  have v4 : VR h' σ3 (.ref H1.length) (.ref D) := v3.step (fun b o e _ _ => g4 b o e) (.refl ..)
  have loop : codeAny (model prog w) A (.compLoop (.ListComp elt [⟨tge, iter, ifs, 0⟩] csc pos) 0 (.ref J) (.ref D) (compEnvC csc (closOf env csc.names []) Cd env)) (compPost (model prog w) A (fun _ _ => False) use Q (.ref D) Cd) { s3 with heap := h', toks := s3.toks + 0 } := by
    refine comp_loop0 (fun m s' => ∃ k H' σ', CompI T w base nm1 (compEnvC csc (closOf env csc.names []) Cd env) σ s (compGo (bodyOf P C ex tg ec ρ) x H1.length) (clearT tg ρ) x J D H1.length H2 k m H' σ' s') ?_ 4200
      ⟨0, H1 ++ [.list []], σ3, hgo, st4, I4, hi4, nJ3, F4, v4⟩
    rintro m s' ⟨k, H', σ', hI⟩
    refine comp_turn hh hu hok ht (hx _ _) (hc _ _) hbJ hsJ hsC ?_ hI
    intro s' σ' st I' F' vD
    obtain ⟨mm, hmm, _⟩ := F'.ns
    exact hend D Cd _ σ' st I' hl vD hsC ⟨mm, hmm⟩ F'.locN hbC
  refine codeAny_compStart_list loop ?_
  exact (iter_self (s := { s3 with heap := h', toks := s3.toks + 0 }) (Q := fun it' s' => codeAny (model prog w) A (.compLoop (.ListComp elt [⟨tge, iter, ifs, 0⟩] csc pos) 0 it' (.ref D) (compEnvC csc (closOf env csc.names []) Cd env)) (compPost (model prog w) A (fun _ _ => False) use Q (.ref D) Cd) s') hi4 loop).to fun _ _ h => h
set_option tactic.hygienic true in
theorem se_comp {iter elt tge : Expr} {ifs : List Expr} {csc : Scope} {pos : Pos} {iri ex ec : E} {tg : Tg} (hh : A.handled = none) (hu : A.units + 20 < cLine) (hns : notSet iter = true)
    (hit : SE prog w T base P C A nm env iter iri) (S : ScOk env.scope csc nm nm1 tge) (ht : cTg (relab env.scope csc) nm1 tge = some tg)
    (hx : ∀ cl Cd, SE prog w T base P C A nm1 (compEnvC csc cl Cd env) elt ex) (hc : ∀ cl Cd, CondOk prog w T base P C A nm1 (compEnvC csc cl Cd env) ifs ec) :
    SE prog w T base P C A nm env (.ListComp elt [⟨tge, iter, ifs, 0⟩] csc pos) (.comp ex tg iri ec) := by
  intro ρ H v H' σ s h I Fm
  have h : (match evE P C iri ρ H with
    | some (x, H) => match compOver tg (bodyOf P C ex tg ec ρ) x H with
      | some (vs, H1) => some (.lst vs, H1.set H.length .dead)
      | Option.none => Option.none
    | Option.none => Option.none) = some (v, H') := h
  split at h
  case h_2 => (first | exact nosome h | exact nofalse h | cases h)
  rename_i x H1 h1
  split at h
  case h_2 => (first | exact nosome h | exact nofalse h | cases h)
  rename_i vs H2 h2
  first | (replace h := s3 h; obtain ⟨h1', h2', h3'⟩ := h; subst h1'; cases h2'; (first | exact nosome h3' | exact nofalse h3' | cases h3')) | (replace h := s2 h; obtain ⟨rfl, rfl⟩ := h) | (first | exact nosome h | exact nofalse h | cases h)
  show wpAny _ _ _ _ _ _
  rw [eval_ListComp]
  refine comp_any (use := none) hh hu hns hit S ht hx hc h1 h2 I Fm fun D Cd s' σ' st I' hl vD hsC hm nC hb => ?_
  obtain ⟨m, hm⟩ := hm
  refine ⟨m, hm, fun h' hs => ?_⟩
  obtain ⟨om, es, ep, hom, hd, _⟩ := hm
  have ni : ¬ Imm om := fun im => im.1 _ _ hd
  have g : ∀ b o, b ≠ Cd → s'.heap.get? b = some o → h'.get? b = some o := fun b o n e => (hs.2 b n).trans e
  obtain ⟨I2, k2⟩ := I'.butE hom ni nC hb g
  have vD2 : VR h' σ' (.ref H1.length) (.ref D) := vD
  obtain ⟨I3, e3, v3⟩ := I2.kill hl vD2
  have st2 : Stp σ σ' s { s' with heap := h' } := st.viaO (⟨fun b o e _ n => g b o n e, .refl .., rfl, rfl, rfl⟩ : StpO (fun a => a = Cd) σ' σ' s' { s' with heap := h' }) fun c hc => hc ▸ hsC
  refine ⟨_, st2.trans ⟨fun b o e _ => e, e3, rfl, rfl, rfl⟩, I3, v3⟩
end
end Mine
set_option linter.unusedSimpArgs false
namespace Mine
open PySem PySem.W PyProof.Rows PySem.MeetsSeq PySem.SeqAt PyProof.Rows.LCg
section
variable {prog : Program} {w : World} {T : Tb} {base : Heap} {P : Pg} {C : CallT} {A : Around} {nm nm1 : Nm} {env : Env} {s : Shared} {σ : Sg} {ρ : Rho} {H : Hp} {K : Frag} {fa : List Addr} {n : Nat} {G : Gt}
theorem getL_has {names : List Str} {h : Heap} {sx : Str} : ∀ {l : List (Nat × V)} {es : List DictEntry}, AR names h σ l es → (getL sx es).isSome = true := by
  intro l es hl
  have : es.any (·.refKey) = false := by
    induction l generalizing es with
    | nil => rw [show es = [] from hl]; rfl
    | cons p l ih =>
      obtain ⟨e, r, s, t, rfl, hn, hk, hv, hl⟩ := hl
      rw [List.any_cons, ih hl]
      simp [DictEntry.refKey, hk]
  unfold getL
  split
  · rfl
  · rw [this]; rfl
theorem AR.put {names : List Str} {h : Heap} (hn : ∀ (i j : Nat) (s : Str), names[i]? = some s → names[j]? = some s → i = j) {x : Nat} {sx : Str} {v : V} {val : Value} {hsh : Int} {tk : Tok} (hx : names[x]? = some sx) (hv : VR h σ v val) : ∀ {l : List (Nat × V)} {es : List DictEntry}, AR names h σ l es →
    AR names h σ (aput x v l) (putL sx hsh (.str sx tk) val es)
  | [], es, hl => by rw [show es = [] from hl]; exact ⟨_, [], sx, tk, rfl, hx, rfl, hv, rfl⟩
  | p :: l, es, hl => by
    obtain ⟨e, r, s, t, rfl, hs, hk, hv', hl⟩ := hl
    unfold aput putL
    cases q : Nat.beq p.1 x with
    | true =>
      have hpx : p.1 = x := Nat.eq_of_beq_eq_true q
      rw [hpx, hx] at hs; (first | exact nosome hs | exact nofalse hs | cases hs)
      have : e.key.isStr sx = true := by rw [isStr_iff hk]; simp
      rw [if_pos this]
      exact ⟨_, r, sx, t, rfl, by show names[p.1]? = _; rw [hpx]; exact hx, hk, hv, hl⟩
    | false =>
      have hne : p.1 ≠ x := fun z => by rw [z, Nat.beq_refl] at q; (first | exact nosome q | exact nofalse q | cases q)
      have : e.key.isStr sx = false := by
        rw [isStr_iff hk]
        rw [beq_eq_false_iff_ne]
        rintro rfl
        exact hne (hn _ _ _ hs hx)
      rw [if_neg (by rw [this]; decide)]
      exact ⟨e, _, s, t, rfl, hs, hk, hv', AR.put hn hx hv hl⟩
theorem AR.length {names : List Str} {h : Heap} : ∀ {l : List (Nat × V)} {es : List DictEntry}, AR names h σ l es → l.length = es.length
  | [], es, hl => by rw [show es = [] from hl]; rfl
  | p :: l, es, hl => by
    obtain ⟨e, r, s, t, rfl, hs, hk, hv', hl⟩ := hl
    simp [hl.length]
theorem putL_len (name : Str) (hsh : Int) (key v : Value) : ∀ es : List DictEntry, (putL name hsh key v es).length ≤ es.length + 1
  | [] => by simp [putL]
  | e :: r => by
    unfold putL
    split
    · simp
    · have := putL_len name hsh key v r
      simp; omega
set_option tactic.hygienic true in
theorem inst_set {x d Cc : Addr} {es : List DictEntry} {n : Nat} {name : Str} {v : Value} {Q : Unit → Shared → Prop} (X : K.In s.heap) (I : InstAt s.heap x (instObj Cc d) Cc (some (dictOf es n)))
    (hs : findIn K (.ref Cc) "__setattr__" = some (some (.builtin "object.__setattr__"))) (hp : plainOver K Cc = true) (ht : takerIn K Cc name = some none) (hh : hasDictIn K Cc = true) (hl : (getL name es).isSome = true) (hz : es.length < 500)
    (h : Q () { s with heap := s.heap.update d (Obj.putName name (PyData.keyHash w.params name) (.str name (s.toks + 1)) v), toks := s.toks + 2 }) : Ok prog w A (setAttr (.ref x) name v) s Q := by
  obtain ⟨hx, hcl, hn, D⟩ := id I
  have D : s.heap.get? d = some (dictOf es n) := D
  refine set_plain X I hs (osa_open (s := { s with toks := s.toks + 1 }) X I hp ht fun b => ?_)
  obtain ⟨cd, hc, hd'⟩ := PySem.W.any_some hh
  refine wpAny_bind (wpAny_pure (wpAny_bind (wpAny_bind (wpAny_loadPart hx (wpAny_bind ?_)))))
  refine Looks.here (s := { s with toks := s.toks + 1 }) (looks_clsIn X hc) ?_
  rw [hd']
  refine wpAny_pure (a := some d) (wpAny_bind (wpAny_pure (wpAny_bind ?_)))
  unfold nsSet
  refine wpAny_bind (wpAny_bind (wpAny_askSetting (wpAny_pure (wpAny_bind (wpAny_mkText (wpAny_bind (wpAny_loadPart D ?_)))))))
  have c : (!es.toArray.any (·.key.isStr name) && es.toArray.any (·.refKey)) = false := by
    unfold getL at hl
    split at hl
    · rename_i en he
      rw [← Array.any_toList, List.any_eq_true.mpr ⟨en, List.mem_of_find?_eq_some he, List.find?_some he⟩]; rfl
    · split at hl
      · (first | exact nosome hl | exact nofalse hl | cases hl)
      · rename_i z; rw [Bool.not_eq_true] at z; rw [← Array.any_toList (p := fun (e : DictEntry) => e.refKey), z, Bool.and_false]
  dsimp only
  rw [aRefKeyMayBeTheName_at, c]
  have D' : (s.heap.update d (Obj.putName name (PyData.keyHash w.params name) (.str name (s.toks + 1)) v)).get? d = some (dictOf (putL name (PyData.keyHash w.params name) (.str name (s.toks + 1)) v es) (putN name es n)) :=
    (Heap.get?_update_self _ D (by rw [putName_dict]; rfl)).trans (by rw [putName_dict])
  refine wpAny_updatePart D ?_
  refine wpAny_bind (wpAny_lookBehind D' (by exact pastItsLine_dict (by rw [List.size_toArray, sizeLine_eq]; have := putL_len name (PyData.keyHash w.params name) (.str name (s.toks + 1)) v es; omega)) ?_)
  exact wpAny_pure h
theorem setAttr_ok (KC : Kc K T P fa base) {i c x : Nat} {sx : Str} {l : List (Nat × V)} {v : V} {o val : Value} (I : Inv T w base σ H s.heap) (hi : H[i]? = some (.inst c l)) (ho : VR s.heap σ (.ref i) o) (hx : T.names[x]? = some sx) (hm : P.meth c x = none) (hlen : Nat.blt l.length 100 = true) (hv : VR s.heap σ v val) :
    Ok prog w A (setAttr o sx val) s fun _ s' => Stp σ σ s s' ∧ Inv T w base σ (H.set i (.inst c (aput x v l))) s'.heap := by
  obtain ⟨a, d, Cc, es, n, h1, h2, h3, h4, h5, h6⟩ := I.instAt hi
  rw [ho.refAt h1]
  obtain ⟨⟨k1, k2, k3⟩, k4⟩ := KC.cls _ _ h2
  have X : K.In s.heap := KC.X.keeps I.stays
  have ht : takerIn K Cc sx = some none := by unfold takerIn; rw [KC.none _ _ _ _ h2 hx hm]; rfl
  rw [Nat.blt_eq] at hlen
  refine inst_set X h3 k4 k3 ht k2 (getL_has h5) (by rw [← h5.length]; omega) ?_
  have D' : (s.heap.update d (Obj.putName sx (PyData.keyHash w.params sx) (.str sx (s.toks + 1)) val)).get? d = some (dictOf (putL sx (PyData.keyHash w.params sx) (.str sx (s.toks + 1)) val es) (putN sx es n)) :=
    (Heap.get?_update_self _ h6 (by rw [putName_dict]; rfl)).trans (by rw [putName_dict])
  have sb : Heap.SameBut d s.heap (s.heap.update d (Obj.putName sx (PyData.keyHash w.params sx) (.str sx (s.toks + 1)) val)) := Heap.SameBut.update ..
  have g : KeepI σ s.heap (s.heap.update d (Obj.putName sx (PyData.keyHash w.params sx) (.str sx (s.toks + 1)) val)) := fun b y e nb _ => (sb.2 b fun q => nb (q ▸ rng_of h1)).trans e
  obtain ⟨J, gr⟩ := I.set h1 sb (o := .inst c (aput x v l)) ⟨a, d, Cc, _, _, rfl, h2, g _ _ h3.1 h4 (imm_plain rfl rfl), h4, D', (h5.put KC.str hx hv).step g (.refl ..)⟩
  exact ⟨⟨gr, .refl .., rfl, rfl, rfl⟩, J⟩
theorem KNod.step {l : List (V × V)} (h : KNod l) : KNod l := h
set_option tactic.hygienic true in
theorem setItem_ok (hu : A.units + 20 < cLine) {d k v : V} {dv kv val : Value} {H' : Hp} (I : Inv T w base σ H s.heap) (hd : VR s.heap σ d dv) (hkv : VR s.heap σ k kv) (hv : VR s.heap σ v val) (e : setItem H d k v = some H') :
    Ok prog w A (PySem.setItem dv kv val) s fun _ s' => Stp σ σ s s' ∧ Inv T w base σ H' s'.heap := by
  unfold setItem at e
  split at e
  · rename_i i
    split at e
    · rename_i l hl
      split at e
      · rename_i hc
        first | (replace e := s3 e; obtain ⟨h1', h2', h3'⟩ := e; subst h1'; cases h2'; (first | exact nosome h3' | exact nofalse h3' | cases h3')) | (replace e := s2 e; obtain ⟨rfl, rfl⟩ := e) | (first | exact nosome e | exact nofalse e | cases e)
        simp only [Bool.and_eq_true, Nat.blt_eq] at hc
        obtain ⟨hk, hsz⟩ := hc
        obtain ⟨a, es, n, hp, h1, h2, h3, hs⟩ := I.dictAt hl
        rw [hd.refAt hp]
        have hT : s.TypeIs (.ref a) "dict" := ⟨_, h1, rfl⟩
        unfold PySem.setItem
        try with_reducible refine wpAny_holding ?_
        first | refine wpAny_bind (wpAny_pure ?_) | skip
        refine wpAny_bind (wpAny_sequenceKey hT (by decide) ?_)
        refine wpAny_bind (wpAny_callSpecial?_slot (name := Str.ofString "__setitem__") hT slot_dict_setitem
          (wpAny_call_entry slot_dict_setitem hT entry_dict_setitem ?_ (args_dict_setitem _ _ _)))
        show wpAny _ _ (Builtin.Dict.notOrdered "__setitem__" ⟨[.ref a, kv, val], []⟩ >>= _) _ _ s
        refine wpAny_bind (wpAny_notOrdered_dict hT ?_)
        show wpAny _ _ (dictSet a kv val >>= _) _ _ s
        refine (dictSet_ok (A := A.in1) (by show A.units + 1 + 10 < cLine; omega) h1 h2 h3 hk hkv hv (Nat.le_of_lt hsz)).bind ?_
        rintro _ s' ⟨t, h', es', n', rfl, hsb, hd', he'⟩
        have g : KeepI σ s.heap h' := fun b y e nb _ => (hsb.2 b fun q => nb (q ▸ rng_of hp)).trans e
        obtain ⟨J, gr⟩ := I.set hp hsb (o := .dict (dput k v l)) ⟨a, es', n', rfl, hd', he'.step g (.refl ..), KNod.put hk h2.keys h3⟩
        exact wpAny_pure ⟨.none, rfl, wpAny_pure ⟨⟨gr, .refl .., rfl, rfl, rfl⟩, J⟩⟩
      · (first | exact nosome e | exact nofalse e | cases e)
    · (first | exact nosome e | exact nofalse e | cases e)
  · (first | exact nosome e | exact nofalse e | cases e)
end
end Mine
set_option linter.unusedSimpArgs false
namespace Mine
open PySem PySem.W PyProof.Rows PySem.MeetsSeq PySem.SeqAt PyProof.Rows.LCg
section
variable {prog : Program} {w : World} {A : Around} {E : Value → Shared → Prop} {s : Shared}
theorem draw_list {it t : Addr} {items : Array Value} (hne : t ≠ it) : ∀ (n i : Nat) (s : Shared) (Q : List Value → Shared → Prop), s.heap.IsListIter it t i → s.heap.IsList t items → i + n ≤ items.size →
    (∀ h', h'.IsListIter it t (i + n) → Heap.SameBut it s.heap h' → Q ((items.toList.drop i).take n) { s with heap := h' }) → wpAny (model prog w) A (draw (.ref it) n) Q E s
  | 0, i, s, Q, hit, _, _, hQ => by
    show wpAny _ _ (pure []) Q E s
    exact wpAny_pure (by simpa using hQ s.heap hit (Heap.SameBut.refl ..))
  | n + 1, i, s, Q, hit, ht, hle, hQ => by
    have hlt : i < items.size := by omega
    show wpAny _ _ (pyNext (.ref it) >>= _) Q E s
    refine wpAny_bind (wpAny_pyNext_list_item hit ht (x := items[i]) (by simp [hlt]) fun h₁ hit₁ hs₁ => ?_)
    refine wpAny_bind (wpAny_holding (draw_list hne n (i + 1) _ _ hit₁ (ht.extBut hs₁.extBut hne) (by omega) fun h₂ hit₂ hs₂ => wpAny_pure ?_))
    have hd : items.toList.drop i = items[i] :: items.toList.drop (i + 1) := by simp [List.drop_eq_getElem_cons, hlt]
    have := hQ h₂ (by rw [show i + (n + 1) = i + 1 + n by omega]; exact hit₂) (hs₁.trans hs₂)
    rw [hd, List.take_succ_cons] at this
    exact this
theorem unpackItems_list {t : Addr} {items : Array Value} {Q : List Value → Shared → Prop} (hh : A.handled = none) (ht : s.heap.IsList t items)
    (hQ : ∀ h', Heap.ExtBut s.heap.objs.size s.heap h' → Q items.toList { s with heap := h' }) : wpAny (model prog w) A (unpackItems (.ref t) items.size none) Q E s := by
  have hlt : t ≠ s.heap.objs.size := by obtain ⟨o, ho, _⟩ := ht; exact Nat.ne_of_lt (Heap.lt_size ho)
  unfold unpackItems
  refine wpAny_bind ?_
  · unfold notIterableAtAll
    refine wpAny_bind (wpAny_specialOf ht.typeIs slot_list_iter.lookup ?_)
    refine wpAny_pure ?_
    simp only [Bool.false_eq_true, if_false]
    refine wpAny_bind (wpAny_holding (wpAny_pyIter_list ht ?_))
    refine wpAny_bind (wpAny_holding (draw_list hlt items.size 0 _ _ ⟨_, Heap.get?_push_size _ rfl, rfl, rfl⟩ (ht.push _) (by omega) fun h₁ hit₁ hs₁ => ?_))
    have hall : List.take items.size (List.drop 0 items.toList) = items.toList := by
      rw [List.drop_zero]; exact List.take_of_length_le (by simp)
    rw [hall]
    rw [if_neg (by simp)]
    have ht₁ : h₁.IsList t items := (ht.push _).extBut hs₁.extBut hlt
    refine wpAny_bind (wpAny_holding (wpAny_pyNext_list_end hh hit₁ ht₁ (by simp) fun h₂ he₂ => ?_))
    simp only [Option.isSome_none, Bool.false_eq_true, if_false]
    refine wpAny_pure (hQ h₂ fun b o hb e => he₂ b o hb (hs₁.extBut b o hb (Heap.get?_push_of_some _ e)))
end
theorem setAll_comm {i : Nat} {v : Option V} : ∀ (is : List Nat) (vs : List V) (ρ : Rho), (is.any (Nat.beq i)) = false → setAll is vs (ρ.set i v) = (setAll is vs ρ).map (·.set i v)
  | [], [], ρ, _ => rfl
  | [], _ :: _, ρ, _ => rfl
  | _ :: _, [], ρ, _ => rfl
  | j :: is, u :: vs, ρ, h => by
    simp only [List.any_cons, Bool.or_eq_false_iff] at h
    have hne : i ≠ j := fun q => by rw [q, Nat.beq_refl] at h; cases h.1
    unfold setAll
    rw [List.set_comm _ _ hne, setAll_comm is vs _ h.2]
theorem setAll_app {b : List Nat} {d : List V} : ∀ {a : List Nat} {c : List V} {ρ ρ' : Rho}, setAll a c ρ = some ρ' → setAll (a ++ b) (c ++ d) ρ = setAll b d ρ'
  | [], [], _, _, h => by cases h; rfl
  | [], _ :: _, _, _, h => by (first | exact nosome h | exact nofalse h | cases h)
  | _ :: _, [], _, _, h => by (first | exact nosome h | exact nofalse h | cases h)
  | i :: a, v :: c, ρ, ρ', h => by
    unfold setAll at h
    exact setAll_app (b := b) (d := d) (a := a) (c := c) h
theorem setAll_rev : ∀ {is : List Nat} {vs : List V} {ρ ρ' : Rho}, noDup is = true → setAll is vs ρ = some ρ' → setAll is.reverse vs.reverse ρ = some ρ'
  | [], [], _, _, _, h => h
  | [], _ :: _, _, _, _, h => by (first | exact nosome h | exact nofalse h | cases h)
  | _ :: _, [], _, _, _, h => by (first | exact nosome h | exact nofalse h | cases h)
  | i :: is, v :: vs, ρ, ρ', hd, h => by
    simp only [noDup, Bool.and_eq_true, Bool.not_eq_true'] at hd
    unfold setAll at h
    rw [setAll_comm is vs ρ hd.1] at h
    obtain ⟨ρ1, h1, rfl⟩ := Option.map_eq_some_iff.mp h
    rw [List.reverse_cons, List.reverse_cons, setAll_app (setAll_rev hd.2 h1)]
    rfl
theorem setAll_len : ∀ {is : List Nat} {vs : List V} {ρ ρ' : Rho}, setAll is vs ρ = some ρ' → is.length = vs.length
  | [], [], _, _, _ => rfl
  | [], _ :: _, _, _, h => by (first | exact nosome h | exact nofalse h | cases h)
  | _ :: _, [], _, _, h => by (first | exact nosome h | exact nofalse h | cases h)
  | i :: is, v :: vs, ρ, ρ', h => by
    unfold setAll at h
    simp [setAll_len h]
section
variable {prog : Program} {w : World} {T : Tb} {base : Heap} {P : Pg} {C : CallT} {A : Around} {nm nm1 : Nm} {env : Env} {s : Shared} {σ : Sg} {ρ : Rho} {H : Hp} {K : Frag} {fa : List Addr} {n : Nat} {G : Gt}
noncomputable def Stores (prog : Program) (w : World) (A : Around) (env : Env) (x : Str) (f : Value → Sem Unit) : Prop := ∀ v s Q, Ok prog w A (bindName env x v) s Q → Ok prog w A (f v) s Q
inductive AllStores (prog : Program) (w : World) (A : Around) (env : Env) : List Str → List (Value → Sem Unit) → Prop
  | nil : AllStores prog w A env [] []
  | cons {x : Str} {f : Value → Sem Unit} {xs : List Str} {fs : List (Value → Sem Unit)} : Stores prog w A env x f → AllStores prog w A env xs fs → AllStores prog w A env (x :: xs) (f :: fs)
inductive AllVars (sc : Scope) (nm : Nm) : List Str → List Nat → Prop
  | nil : AllVars sc nm [] []
  | cons {x : Str} {i : Nat} {xs : List Str} {is : List Nat} : cVar sc nm x = some i → AllVars sc nm xs is → AllVars sc nm (x :: xs) (i :: is)
set_option tactic.hygienic true in
theorem vars_of {sc : Scope} : ∀ {xs : List Str} {is : List Nat}, optList (cVar sc nm) xs = some is → AllVars sc nm xs is
  | [], is, h => by cases h; exact .nil
  | x :: xs, is, h => by
    unfold optList at h
    split at h
    · rename_i a b h1 h2; (first | (replace h := s3 h; obtain ⟨h1', h2', h3'⟩ := h; subst h1'; cases h2'; (first | exact nosome h3' | exact nofalse h3' | cases h3')) | (replace h := s2 h; obtain ⟨rfl, rfl⟩ := h) | (first | exact nosome h | exact nofalse h | cases h)); exact .cons h1 (vars_of h2)
    · (first | exact nosome h | exact nofalse h | cases h)
theorem AllVars.snoc {sc : Scope} {x : Str} {i : Nat} (hx : cVar sc nm x = some i) : ∀ {xs : List Str} {is : List Nat}, AllVars sc nm xs is → AllVars sc nm (xs ++ [x]) (is ++ [i])
  | _, _, .nil => .cons hx .nil
  | _, _, .cons h t => .cons h (t.snoc hx)
theorem AllVars.rev {sc : Scope} : ∀ {xs : List Str} {is : List Nat}, AllVars sc nm xs is → AllVars sc nm xs.reverse is.reverse
  | _, _, .nil => .nil
  | _, _, .cons h t => by rw [List.reverse_cons, List.reverse_cons]; exact t.rev.snoc h
theorem StpO.own1 {σ' : Sg} {s' : Shared} {h : Heap} (F : Frm nm env base h σ ρ) : ∀ c, Own nm env c → ∃ o, h.get? c = some o := fun c oc => by
  obtain ⟨_, _, o, ho, _⟩ := F.own oc; exact ⟨o, ho⟩
theorem store_names : ∀ {xs : List Str} {is : List Nat} {fs : List (Value → Sem Unit)} {l : List V} {vals : List Value} {ρ ρ' : Rho} {s : Shared}, AllVars env.scope nm xs is → AllStores prog w A env xs fs → setAll is l ρ = some ρ' → VRs s.heap σ l vals →
    Inv T w base σ H s.heap → Frm nm env base s.heap σ ρ → Ok prog w A (assignInOrder fs vals) s fun _ s' => StpO (Own nm env) σ σ s s' ∧ Inv T w base σ H s'.heap ∧ Frm nm env base s'.heap σ ρ'
  | _, _, _, l, vals, ρ, ρ', s, .nil, .nil, h, hv, I, F => by
    cases l with
    | nil => cases h; exact assignInOrder_nil ⟨.refl .., I, F⟩
    | cons => (first | exact nosome h | exact nofalse h | cases h)
  | _, _, _, l, vals, ρ, ρ', s, .cons hx hxs, .cons hf hfs, h, hv, I, F => by
    cases l with
    | nil => (first | exact nosome h | exact nofalse h | cases h)
    | cons x l =>
      obtain ⟨v, r, rfl, h1, h2⟩ := hv
      unfold setAll at h
      refine assignInOrder_cons ?_
      refine (hf v s _ (store_var hx I F h1)).to ?_
      rintro _ s1 ⟨st1, I1, F1⟩
      have h2' : VRs s1.heap σ l r := VRs.step (fun b o e n im => st1.grow b o e n fun own => by
        obtain ⟨_, _, o', ho', ni⟩ := F.own own
        rw [e] at ho'; cases ho'; exact ni im) st1.ext l h2
      refine (store_names hxs hfs h h2' I1 F1).to ?_
      rintro _ s2 ⟨st2, I2, F2⟩
      exact ⟨st1.trans st2 (StpO.own1 (σ' := σ) (s' := s) F1), I2, F2⟩
theorem unpack_ok (hh : A.handled = none) {y : V} {l : List V} {v : Value} (I : Inv T w base σ H s.heap) (hy : frozenOf y = some l) (hv : VR s.heap σ y v) :
    Ok prog w A (unpackItems v l.length none) s fun items s' => Stp σ σ s s' ∧ Inv T w base σ H s'.heap ∧ VRs s'.heap σ l items := by
  have fin : ∀ (items : Array Value), VRs s.heap σ l items.toList → ∀ h', Heap.ExtBut s.heap.objs.size s.heap h' → Stp σ σ s { s with heap := h' } ∧ Inv T w base σ H h' ∧ VRs h' σ l items.toList := fun items hs h' he => by
    have g : ∀ b o, s.heap.get? b = some o → h'.get? b = some o := fun b o e => he b o (Nat.ne_of_lt (Heap.lt_size e)) e
    have st : Stp σ σ s { s with heap := h' } := Stp.more g
    exact ⟨st, I.more g, hs.stp st⟩
  cases y with
  | tup r =>
    (first | exact nosome hy | exact nofalse hy | cases hy)
    obtain ⟨a, items, rfl, ht, hn, hs⟩ := hv
    have := hs.length
    rw [show l.length = items.size by simpa using this]
    exact unpackItems_tuple hh ht (fin items hs)
  | lst r =>
    (first | exact nosome hy | exact nofalse hy | cases hy)
    obtain ⟨a, items, rfl, ht, hn, hs⟩ := hv
    have := hs.length
    rw [show l.length = items.size by simpa using this]
    exact unpackItems_list hh ht (fin items hs)
  | _ => (first | exact nosome hy | exact nofalse hy | cases hy)
end
end Mine
set_option linter.unusedSimpArgs false
namespace Mine
open PySem PySem.W PyProof.Rows PySem.MeetsSeq PySem.SeqAt PyProof.Rows.LCg
set_option tactic.hygienic true in
noncomputable def PSr (base : Heap) (nm : Nm) (env : Env) (h : Heap) (σ' : Sg) (ρ' : Rho) : R → Flow → Prop
  | .next, f => f = .next ∧ Frm nm env base h σ' ρ'
  | .cont, f => f = .cont ∧ Frm nm env base h σ' ρ'
  | .ret v, f => ∃ val, f = .ret val ∧ VR h σ' v val
noncomputable def PS (T : Tb) (w : World) (base : Heap) (nm : Nm) (env : Env) (σ : Sg) (s : Shared) (r : R) (ρ' : Rho) (H' : Hp) (f : Flow) (s' : Shared) : Prop :=
  ∃ σ', StpO (Own nm env) σ σ' s s' ∧ Inv T w base σ' H' s'.heap ∧ PSr base nm env s'.heap σ' ρ' r f
section
variable (prog : Program) (w : World) (T : Tb) (base : Heap) (P : Pg) (C : CallT) (A : Around) (nm : Nm) (env : Env)
noncomputable def SS (st : Stmt) (ir : S) : Prop := ∀ ρ H r ρ' H' σ s, evS P C ir ρ H = some (r, ρ', H') → Inv T w base σ H s.heap → Frm nm env base s.heap σ ρ → Ok prog w A (exec st env) s (PS T w base nm env σ s r ρ' H')
noncomputable def SSs (l : List Stmt) (ir : S) : Prop := ∀ ρ H r ρ' H' σ s, evS P C ir ρ H = some (r, ρ', H') → Inv T w base σ H s.heap → Frm nm env base s.heap σ ρ → Ok prog w A (execs l env) s (PS T w base nm env σ s r ρ' H')
end
section
variable {prog : Program} {w : World} {T : Tb} {base : Heap} {P : Pg} {C : CallT} {A : Around} {nm nm1 : Nm} {env : Env} {s : Shared} {σ : Sg} {ρ : Rho} {H : Hp} {K : Frag} {fa : List Addr} {n : Nat} {G : Gt}
theorem StpO.viaO {O O' : Addr → Prop} {σ' σ'' : Sg} {s' s'' : Shared} (a : StpO O σ σ' s s') (b : StpO O' σ' σ'' s' s'') (ho : ∀ c, O' c → O c ∨ ∀ o, s.heap.get? c = some o → Rng σ c) (own : ∀ c, O c → ∃ o, s'.heap.get? c = some o) : StpO O σ σ'' s s'' := by
  refine ⟨fun x o hx n no => ?_, ?_, b.gens.trans a.gens, b.drawn.trans a.drawn, b.os.trans a.os⟩
  · have hx' := a.grow x o hx n no
    have nr : ¬ Rng σ' x := fun r => by
      rcases a.ext.fresh x r with q | q
      · exact n q
      · rw [hx] at q; (first | exact nosome q | exact nofalse q | cases q)
    refine b.grow x o hx' nr fun q => ?_
    rcases ho x q with z | z
    · exact no z
    · exact n (z o hx)
  · refine ⟨Nat.le_trans a.ext.len b.ext.len, fun i hi => ?_, fun d r => ?_⟩
    · rcases b.ext.same i (Nat.lt_of_lt_of_le hi a.ext.len) with q | q
      · rw [q]; exact a.ext.same i hi
      · exact .inr q
    · rcases b.ext.fresh d r with q | q
      · exact a.ext.fresh d q
      · by_cases n : Rng σ d
        · exact .inl n
        · cases z : s.heap.get? d with
          | none => exact .inr rfl
          | some o =>
            by_cases no : O d
            · obtain ⟨o', ho'⟩ := own d no; rw [q] at ho'; (first | exact nosome ho' | exact nofalse ho' | cases ho')
            · have := a.grow d o z n no; rw [q] at this; (first | exact nosome this | exact nofalse this | cases this)
theorem Frm.owned {h : Heap} (F : Frm nm env base h σ ρ) : ∀ c, Own nm env c → ∃ o, h.get? c = some o := fun c oc => by
  obtain ⟨_, _, o, ho, _⟩ := F.own oc; exact ⟨o, ho⟩
theorem PS.after {σ1 : Sg} {s1 : Shared} {ρ1 ρ' : Rho} {r : R} {H' : Hp} {f : Flow} {s' : Shared} (a : StpO (Own nm env) σ σ1 s s1) (F : Frm nm env base s1.heap σ1 ρ1) (b : PS T w base nm env σ1 s1 r ρ' H' f s') : PS T w base nm env σ s r ρ' H' f s' := by
  obtain ⟨σ2, st2, I2, h2⟩ := b
  exact ⟨σ2, a.trans st2 F.owned, I2, h2⟩
set_option tactic.hygienic true in
theorem PS.next {σ1 : Sg} {s1 : Shared} {ρ' : Rho} {H' : Hp} (a : StpO (Own nm env) σ σ1 s s1) (I : Inv T w base σ1 H' s1.heap) (F : Frm nm env base s1.heap σ1 ρ') : PS T w base nm env σ s .next ρ' H' .next s1 := ⟨σ1, a, I, rfl, F⟩
set_option tactic.hygienic true in
theorem ss_pass {pos : Pos} : SS prog w T base P C A nm env (.Pass pos) .skip := by
  intro ρ H r ρ' H' σ s h I F
  simp only [evS, Option.some.injEq, Prod.mk.injEq, s_skip, s_seq, s_asg, s_asgT, s_setA, s_setI, s_ex, s_ite, s_whl, s_forS, s_ret, s_retF, s_cont, s_bad] at h
  obtain ⟨rfl, rfl, rfl⟩ := h
  exact wpAny_Pass (PS.next (.refl ..) I F)
theorem ss_cont {pos : Pos} : SS prog w T base P C A nm env (.Continue pos) .cont := by
  intro ρ H r ρ' H' σ s h I F
  simp only [evS, Option.some.injEq, Prod.mk.injEq, s_skip, s_seq, s_asg, s_asgT, s_setA, s_setI, s_ex, s_ite, s_whl, s_forS, s_ret, s_retF, s_cont, s_bad] at h
  obtain ⟨rfl, rfl, rfl⟩ := h
  exact wpAny_Continue ⟨σ, .refl .., I, rfl, F⟩
theorem ss_bad {st : Stmt} : SS prog w T base P C A nm env st .bad := by
  intro ρ H r ρ' H' σ s h I F
  first | (replace h := s3 h; obtain ⟨h1', h2', h3'⟩ := h; subst h1'; cases h2'; (first | exact nosome h3' | exact nofalse h3' | cases h3')) | (first | exact nosome h | exact nofalse h | cases h)
set_option tactic.hygienic true in
theorem sss_nil : SSs prog w T base P C A nm env [] .skip := by
  intro ρ H r ρ' H' σ s h I F
  simp only [evS, Option.some.injEq, Prod.mk.injEq, s_skip, s_seq, s_asg, s_asgT, s_setA, s_setI, s_ex, s_ite, s_whl, s_forS, s_ret, s_retF, s_cont, s_bad] at h
  obtain ⟨rfl, rfl, rfl⟩ := h
  exact wpAny_execs_nil (PS.next (.refl ..) I F)
set_option tactic.hygienic true in
theorem flow_tail {st : Stmt} {l : List Stmt} {Q : Flow → Shared → Prop} (h : Ok prog w A (exec st env) s fun f s' => match f with | .next => Ok prog w A (execs l env) s' Q | f => Q f s') : Ok prog w A (execs (st :: l) env) s Q := wpAny_execs_cons h
set_option tactic.hygienic true in
theorem sss_one {st : Stmt} {a : S} (h : SS prog w T base P C A nm env st a) : SSs prog w T base P C A nm env [st] a := by
  intro ρ H r ρ' H' σ s e I F
  refine flow_tail ((h ρ H r ρ' H' σ s e I F).to ?_)
  intro f s1 h1
  cases f with
  | next => exact wpAny_execs_nil h1
  | _ => exact h1
set_option tactic.hygienic true in
theorem sss_cons {st : Stmt} {l : List Stmt} {a b : S} (h1 : SS prog w T base P C A nm env st a) (h2 : SSs prog w T base P C A nm env l b) : SSs prog w T base P C A nm env (st :: l) (.seq a b) := by
  intro ρ H r ρ' H' σ s e I F
  simp only [evS, s_skip, s_seq, s_asg, s_asgT, s_setA, s_setI, s_ex, s_ite, s_whl, s_forS, s_ret, s_retF, s_cont, s_bad] at e
  split at e
  · rename_i ρ1 H1 q
    refine flow_tail ((h1 ρ H _ _ _ σ s q I F).to ?_)
    rintro f s1 ⟨σ1, st1, I1, rfl, F1⟩
    exact (h2 ρ1 H1 r ρ' H' σ1 s1 e I1 F1).to fun f s2 h => h.after st1 F1
  · rename_i hn
    refine flow_tail ((h1 ρ H r ρ' H' σ s e I F).to ?_)
    rintro f s1 ⟨σ1, st1, I1, h⟩
    cases r with
    | next => exact absurd e (hn _ _)
    | cont => obtain ⟨rfl, F1⟩ := h; exact ⟨σ1, st1, I1, rfl, F1⟩
    | ret v => obtain ⟨val, rfl, hv⟩ := h; exact ⟨σ1, st1, I1, val, rfl, hv⟩
noncomputable def notComp : Expr → Bool
  | .ListComp .. => false
  | .SetComp .. => false
  | .DictComp .. => false
  | _ => true
theorem swaps_not {v : Expr} (h : notComp v = true) (t : Option Expr) (l : Nat) : swapsWith v t l env = pure false := by
  cases v <;> first | rfl | (first | exact nosome h | exact nofalse h | cases h)
theorem swaps_attr (v o : Expr) (a : Str) (p : Pos) (l : Nat) : swapsWith v (some (.Attribute o a p)) l env = pure false := by cases v <;> rfl
theorem swaps_sub (v o i : Expr) (p : Pos) (l : Nat) : swapsWith v (some (.Subscript o i p)) l env = pure false := by cases v <;> rfl
theorem swaps_tup (v : Expr) (ts : List Expr) (k) (p : Pos) (l : Nat) : swapsWith v (some (.Tuple ts k p)) l env = pure false := by cases v <;> rfl
set_option tactic.hygienic true in
theorem ss_asg' {x : Str} {i : Nat} {v : Expr} {e : E} {px pos : Pos} (hs : swapsWith v (some (.Name x px)) pos.line env = pure false) (hx : cVar env.scope nm x = some i) (he : SE prog w T base P C A nm env v e) : SS prog w T base P C A nm env (.Assign [.Name x px] v pos) (.asg i e) := by
  intro ρ H r ρ' H' σ s h I F
  simp only [evS, s_skip, s_seq, s_asg, s_asgT, s_setA, s_setI, s_ex, s_ite, s_whl, s_forS, s_ret, s_retF, s_cont, s_bad] at h
  split at h
  · rename_i y H1 h1
    first | (replace h := s3 h; obtain ⟨h1', h2', h3'⟩ := h; subst h1'; cases h2'; (first | exact nosome h3' | exact nofalse h3' | cases h3')) | (first | exact nosome h | exact nofalse h | cases h)
    show wpAny _ _ _ _ _ _
    rw [exec_Assign_Name env x px v pos hs]
    refine wpAny_bind (wpAny_standAt (wpAny_bind ((he ρ H y _ σ s h1 I F).to ?_)))
    rintro val s1 ⟨σ1, st1, I1, v1⟩
    refine wpAny_bind (wpAny_standAt (wpAny_bind ((store_var hx I1 (F.stp st1) v1).to ?_)))
    rintro _ s2 ⟨st2, I2, F2⟩
    exact wpAny_pure (PS.next (st1.toO.trans st2 (F.stp st1).owned) I2 F2)
  · (first | exact nosome h | exact nofalse h | cases h)
set_option tactic.hygienic true in
theorem ss_setA (KC : Kc K T P fa base) {o v : Expr} {sx : Str} {x : Nat} {eo e : E} {p pos : Pos} (hx : T.names[x]? = some sx) (ho : SE prog w T base P C A nm env o eo) (he : SE prog w T base P C A nm env v e) : SS prog w T base P C A nm env (.Assign [.Attribute o sx p] v pos) (.setA eo x e) := by
  intro ρ H r ρ' H' σ s h I F
  simp only [evS, s_skip, s_seq, s_asg, s_asgT, s_setA, s_setI, s_ex, s_ite, s_whl, s_forS, s_ret, s_retF, s_cont, s_bad] at h
  refine Classical.byContradiction fun hcon => ?_
  split at h
  case h_2 => (first | exact nosome h | exact nofalse h | cases h)
  rename_i y H1 h1
  split at h
  case h_2 => (first | exact nosome h | exact nofalse h | cases h)
  rename_i j H2 h2
  split at h
  case h_2 => (first | exact nosome h | exact nofalse h | cases h)
  rename_i c l hi
  split at h
  case h_2 => (first | exact nosome h | exact nofalse h | cases h)
  rename_i q1 q2
  first | (replace h := s3 h; obtain ⟨h1', h2', h3'⟩ := h; subst h1'; cases h2'; (first | exact nosome h3' | exact nofalse h3' | cases h3')) | (first | exact nosome h | exact nofalse h | cases h)
  refine hcon ?_
  refine plainObj_wpAny_Assign_Attribute ?_ (swaps_attr ..)
  refine (he ρ H y _ σ s h1 I F).to ?_
  rintro val s1 ⟨σ1, st1, I1, v1⟩
  refine (ho ρ H1 _ H2 σ1 s1 h2 I1 (F.stp st1)).to ?_
  rintro ov s2 ⟨σ2, st2, I2, v2⟩
  refine (setAttr_ok KC I2 hi v2 hx q1 q2 (v1.stp st2)).to ?_
  rintro _ s3 ⟨st3, I3⟩
  have st := (st1.trans st2).trans st3
  exact PS.next st.toO I3 (F.stp st)
set_option tactic.hygienic true in
theorem ss_setI (hu : A.units + 20 < cLine) {o k v : Expr} {eo ek e : E} {p pos : Pos} (ho : SE prog w T base P C A nm env o eo) (hk : SE prog w T base P C A nm env k ek) (he : SE prog w T base P C A nm env v e) : SS prog w T base P C A nm env (.Assign [.Subscript o k p] v pos) (.setI eo ek e) := by
  intro ρ H r ρ' H' σ s h I F
  simp only [evS, s_skip, s_seq, s_asg, s_asgT, s_setA, s_setI, s_ex, s_ite, s_whl, s_forS, s_ret, s_retF, s_cont, s_bad] at h
  refine Classical.byContradiction fun hcon => ?_
  split at h
  case h_2 => (first | exact nosome h | exact nofalse h | cases h)
  rename_i y H1 h1
  split at h
  case h_2 => (first | exact nosome h | exact nofalse h | cases h)
  rename_i d H2 h2
  split at h
  case h_2 => (first | exact nosome h | exact nofalse h | cases h)
  rename_i z H3 h3
  split at h
  case h_2 => (first | exact nosome h | exact nofalse h | cases h)
  rename_i H4 h4
  first | (replace h := s3 h; obtain ⟨h1', h2', h3'⟩ := h; subst h1'; cases h2'; (first | exact nosome h3' | exact nofalse h3' | cases h3')) | (first | exact nosome h | exact nofalse h | cases h)
  refine hcon ?_
  refine wpAny_Assign_Subscript ?_ (swaps_sub ..)
  refine (he ρ H y _ σ s h1 I F).to ?_
  rintro val s1 ⟨σ1, st1, I1, v1⟩
  refine (ho ρ H1 _ H2 σ1 s1 h2 I1 (F.stp st1)).to ?_
  rintro ov s2 ⟨σ2, st2, I2, v2⟩
  refine (hk ρ H2 _ H3 σ2 s2 h3 I2 (F.stp (st1.trans st2))).to ?_
  rintro kv s3 ⟨σ3, st3, I3, v3⟩
  refine (setItem_ok hu I3 (v2.stp st3) v3 (v1.stp (st2.trans st3)) h4).to ?_
  rintro _ s4 ⟨st4, I4⟩
  have st := ((st1.trans st2).trans st3).trans st4
  exact PS.next st.toO I4 (F.stp st)
theorem interactive_no (F : Frm nm env base s.heap σ ρ) : interactive env = false := by
  unfold interactive; rw [F.kind]; rfl
set_option tactic.hygienic true in
theorem ss_ex {v : Expr} {e : E} {pos : Pos} (hc : notComp v = true) (he : SE prog w T base P C A nm env v e) : SS prog w T base P C A nm env (.Expr v pos) (.ex e) := by
  intro ρ H r ρ' H' σ s h I F
  simp only [evS, s_skip, s_seq, s_asg, s_asgT, s_setA, s_setI, s_ex, s_ite, s_whl, s_forS, s_ret, s_retF, s_cont, s_bad] at h
  split at h
  case h_2 => (first | exact nosome h | exact nofalse h | cases h)
  rename_i y H1 h1
  split at h
  case isFalse => (first | exact nosome h | exact nofalse h | cases h)
  rename_i hf
  first | (replace h := s3 h; obtain ⟨h1', h2', h3'⟩ := h; subst h1'; cases h2'; (first | exact nosome h3' | exact nofalse h3' | cases h3')) | (first | exact nosome h | exact nofalse h | cases h)
  refine wpAny_Expr ?_ (interactive_no F) (swaps_not hc _ _)
  refine (he ρ H y _ σ s h1 I F).to ?_
  rintro val s1 ⟨σ1, st1, I1, v1⟩
  have fin := PS.next st1.toO I1 (F.stp st1)
  cases y with
  | none => rw [show val = _ from v1]; exact fin
  | bool b => rw [show val = _ from v1]; exact fin
  | int i => obtain ⟨t, rfl⟩ := v1; exact fin
  | str i => obtain ⟨t, rfl⟩ := v1; exact fin
  | _ => (first | exact nosome hf | exact nofalse hf | cases hf)
set_option tactic.hygienic true in
theorem ss_ite {t : Expr} {a b : List Stmt} {et : E} {ea eb : S} {pos : Pos} (ht : SB prog w T base P C A nm env t et) (ha : SSs prog w T base P C A nm env a ea) (hb : SSs prog w T base P C A nm env b eb) : SS prog w T base P C A nm env (.If t a b pos) (.ite et ea eb) := by
  intro ρ H r ρ' H' σ s h I F
  simp only [evS, s_skip, s_seq, s_asg, s_asgT, s_setA, s_setI, s_ex, s_ite, s_whl, s_forS, s_ret, s_retF, s_cont, s_bad] at h
  split at h
  · rename_i H1 h1
    refine wpAny_If ((ht ρ H _ H1 σ s h1 I F).to ?_)
    rintro c s1 ⟨rfl, σ1, st1, I1⟩
    exact (ha ρ H1 r ρ' H' σ1 s1 h I1 (F.stp st1)).to fun _ _ h => h.after st1.toO (F.stp st1)
  · rename_i H1 h1
    refine wpAny_If ((ht ρ H _ H1 σ s h1 I F).to ?_)
    rintro c s1 ⟨rfl, σ1, st1, I1⟩
    exact (hb ρ H1 r ρ' H' σ1 s1 h I1 (F.stp st1)).to fun _ _ h => h.after st1.toO (F.stp st1)
  · (first | exact nosome h | exact nofalse h | cases h)
set_option tactic.hygienic true in
theorem ss_ret {v : Expr} {e : E} {pos : Pos} (he : SE prog w T base P C A nm env v e) : SS prog w T base P C A nm env (.Return (some v) pos) (.ret e) := by
  intro ρ H r ρ' H' σ s h I F
  simp only [evS, s_skip, s_seq, s_asg, s_asgT, s_setA, s_setI, s_ex, s_ite, s_whl, s_forS, s_ret, s_retF, s_cont, s_bad] at h
  split at h
  case h_2 => (first | exact nosome h | exact nofalse h | cases h)
  rename_i y H1 h1
  first | (replace h := s3 h; obtain ⟨h1', h2', h3'⟩ := h; subst h1'; cases h2'; (first | exact nosome h3' | exact nofalse h3' | cases h3')) | (first | exact nosome h | exact nofalse h | cases h)
  refine wpAny_Return_some ((he ρ H y _ σ s h1 I F).to ?_)
  rintro val s1 ⟨σ1, st1, I1, v1⟩
  exact ⟨σ1, st1.toO, I1, val, rfl, v1⟩
theorem ss_ret0 {pos : Pos} : SS prog w T base P C A nm env (.Return none pos) (.ret (.cst .none)) := by
  intro ρ H r ρ' H' σ s h I F
  simp only [evS, evE, Option.some.injEq, Prod.mk.injEq, e_cst, e_var, e_glob, e_nil, e_cons, e_tup, e_lst, e_lstH, e_dictH, e_and, e_or, e_not, e_neg, e_bin, e_cmp, e_cmp2, e_cmp3, e_ife, e_attr, e_sub, e_slice, e_rev, e_call, e_meth, e_new, e_sup, e_bm, e_bi, e_isi, e_comp, e_bvn, s_skip, s_seq, s_asg, s_asgT, s_setA, s_setI, s_ex, s_ite, s_whl, s_forS, s_ret, s_retF, s_cont, s_bad] at h
  obtain ⟨rfl, rfl, rfl⟩ := h
  exact wpAny_Return_none ⟨σ, .refl .., I, .none, rfl, rfl⟩
set_option tactic.hygienic true in
theorem ss_retF {x : Str} {i : Nat} {px pos : Pos} (hd : strEq x s_debug = false) (hcd : strEq x s_classdict = false) (hx : cVar env.scope nm x = some i) : SS prog w T base P C A nm env (.Return (some (.Name x px)) pos) (.retF i) := by
  intro ρ H r ρ' H' σ s h I F
  simp only [evS, s_skip, s_seq, s_asg, s_asgT, s_setA, s_setI, s_ex, s_ite, s_whl, s_forS, s_ret, s_retF, s_cont, s_bad] at h
  split at h
  case h_2 => (first | exact nosome h | exact nofalse h | cases h)
  rename_i j hj
  split at h
  case h_2 => (first | exact nosome h | exact nofalse h | cases h)
  rename_i l hl
  first | (replace h := s3 h; obtain ⟨h1', h2', h3'⟩ := h; subst h1'; cases h2'; (first | exact nosome h3' | exact nofalse h3' | cases h3')) | (first | exact nosome h | exact nofalse h | cases h)
  have hk : isVar env.scope x = true ∧ nfind x nm = some i := by
    unfold cVar isLocalOrCell at hx
    unfold isVar
    split at hx
    · rename_i q; rw [q]; exact ⟨rfl, by simpa using hx⟩
    · rename_i q; rw [q]; exact ⟨rfl, by simpa using hx⟩
    · (first | exact nosome hx | exact nofalse hx | cases hx)
  refine wpAny_Return_some ((load_var hd hcd hk.1 hk.2 hj F).to ?_)
  rintro val s1 ⟨rfl, v1⟩
  obtain ⟨_, D, rfl, _⟩ := id v1
  obtain ⟨I3, e3, v3⟩ := I.kill hl v1
  exact ⟨_, ⟨fun b o e _ _ => e, e3, rfl, rfl, rfl⟩, I3, _, rfl, v3⟩
set_option tactic.hygienic true in
theorem ss_while {t : Expr} {b : List Stmt} {et : E} {eb : S} {pos : Pos} (ht : SB prog w T base P C A nm env t et) (hb : SSs prog w T base P C A nm env b eb) : SS prog w T base P C A nm env (.While t b [] pos) (.whl et eb) := by
  intro ρ H r ρ' H' σ s h I F
  simp only [evS, s_skip, s_seq, s_asg, s_asgT, s_setA, s_setI, s_ex, s_ite, s_whl, s_forS, s_ret, s_retF, s_cont, s_bad] at h
  refine wpAny_While (codeAny_whileLoop (fun m s' => ∃ ρ1 H1 σ1, whileGo (evE P C et) (evS P C eb) m ρ1 H1 = some (r, ρ', H') ∧ StpO (Own nm env) σ σ1 s s' ∧ Inv T w base σ1 H1 s'.heap ∧ Frm nm env base s'.heap σ1 ρ1) ?_ 200 ⟨ρ, H, σ, h, .refl .., I, F⟩)
  rintro m s' ⟨ρ1, H1, σ1, hg, st, I', F'⟩
  cases m with
  | zero => (first | exact nosome hg | exact nofalse hg | cases hg)
  | succ m =>
    unfold whileGo at hg
    split at hg
    · rename_i H2 h2
      refine (ht ρ1 H1 _ H2 σ1 s' h2 I' F').to ?_
      rintro c s2 ⟨rfl, σ2, st2, I2⟩
      have F2 := F'.stp st2
      have stt := st.trans st2.toO F'.owned
      have go : ∀ {r0 : R} {ρ3 : Rho} {H3 : Hp}, evS P C eb ρ1 H2 = some (r0, ρ3, H3) → Ok prog w A (execs b env) s2 (PS T w base nm env σ2 s2 r0 ρ3 H3) := fun e => hb ρ1 H2 _ _ _ σ2 s2 e I2 F2
      split at hg
      · rename_i ρ3 H3 h3
        refine (go h3).to ?_
        rintro f s3 ⟨σ3, st3, I3, rfl, F3⟩
        exact ⟨m, Nat.lt_succ_self _, ρ3, H3, σ3, hg, stt.trans st3 F2.owned, I3, F3⟩
      · rename_i ρ3 H3 h3
        refine (go h3).to ?_
        rintro f s3 ⟨σ3, st3, I3, rfl, F3⟩
        exact ⟨m, Nat.lt_succ_self _, ρ3, H3, σ3, hg, stt.trans st3 F2.owned, I3, F3⟩
      · rename_i hn1 hn2
        refine (go hg).to ?_
        rintro f s3 ⟨σ3, st3, I3, h3⟩
        cases r with
        | next => exact absurd hg (hn1 _ _)
        | cont => exact absurd hg (hn2 _ _)
        | ret v => obtain ⟨val, rfl, hv⟩ := h3; exact ⟨σ3, stt.trans st3 F2.owned, I3, val, rfl, hv⟩
    · rename_i H2 h2
      first | (replace hg := s3 hg; obtain ⟨rfl, rfl, rfl⟩ := hg) | (replace hg := s2 hg; obtain ⟨rfl, rfl⟩ := hg) | (first | exact nosome hg | exact nofalse hg | cases hg)
      refine (ht _ H1 _ _ σ1 s' h2 I' F').to ?_
      rintro c s2 ⟨rfl, σ2, st2, I2⟩
      exact wpAny_execs_nil ⟨σ2, st.trans st2.toO F'.owned, I2, rfl, F'.stp st2⟩
    · (first | exact nosome hg | exact nofalse hg | cases hg)
set_option tactic.hygienic true in
theorem ss_for (hh : A.handled = none) {x : Str} {i : Nat} {px pos : Pos} {it : Expr} {b : List Stmt} {ei : E} {eb : S} (hns : notSet it = true) (hx : cVar env.scope nm x = some i) (hi : SE prog w T base P C A nm env it ei) (hb : SSs prog w T base P C A nm env b eb) :
    SS prog w T base P C A nm env (.For (.Name x px) it b [] pos) (.forS (.one i) ei eb) := by
  intro ρ H r ρ' H' σ s h I F
  simp only [evS, s_skip, s_seq, s_asg, s_asgT, s_setA, s_setI, s_ex, s_ite, s_whl, s_forS, s_ret, s_retF, s_cont, s_bad] at h
  split at h
  case h_2 => (first | exact nosome h | exact nofalse h | cases h)
  rename_i y H1 h1
  simp only [okTg] at h
  refine wpAny_For ?_ (foldedSet hns env)
  refine (hi ρ H y H1 σ s h1 I F).to ?_
  rintro xv s1 ⟨σ1, st1, I1, v1⟩
  have hsrc : ∃ r, srcAt H1 y 0 = some r := by
    have hgo' := h
    unfold forGo at hgo'
    split at hgo'
    · rename_i q; exact ⟨_, q⟩
    · rename_i q; exact ⟨_, q⟩
    · (first | exact nosome hgo' | exact nofalse hgo' | cases hgo')
  obtain ⟨r0, hr0⟩ := hsrc
  refine (iter_ok I1 v1 hr0).to ?_
  rintro itv s2 ⟨o, hoi, rfl, rfl, hi2⟩
  generalize hJ : s1.heap.objs.size = J at hi2 ⊢
  have hJ1 : s1.heap.get? J = none := hJ ▸ fresh_none _
  have g2 : ∀ b x, s1.heap.get? b = some x → (s1.heap.push o).get? b = some x := push_get _ _
  have st2 : Stp σ σ1 s { s1 with heap := s1.heap.push o } := st1.trans (Stp.more (t := s1.toks) g2)
  have nJ : ¬ Rng σ1 J := I1.notNew hJ1
  have hbJ : base.get? J = none := by
    cases z : base.get? J with
    | none => rfl
    | some o => rw [I1.stays _ _ z] at hJ1; (first | exact nosome hJ1 | exact nofalse hJ1 | cases hJ1)
  have hsJ : ∀ o, s.heap.get? J = some o → Rng σ J := fun o z => by
    by_cases n : Rng σ J
    · exact n
    · rw [st1.grow _ _ z n] at hJ1; (first | exact nosome hJ1 | exact nofalse hJ1 | cases hJ1)
  have nO : ¬ Own nm env J := fun q => by
    obtain ⟨nr, _, o, ho, _⟩ := F.own q
    exact nr (hsJ o ho)
  refine codeAny_forLoop (fun m s' => ∃ k ρ1 H2 σ2, forGo (.one i) y (evS P C eb) m k ρ1 H2 = some (r, ρ', H') ∧ StpO (Own nm env) σ σ2 s s' ∧ Inv T w base σ2 H2 s'.heap ∧ Frm nm env base s'.heap σ2 ρ1 ∧ ItAt s'.heap σ2 J k y ∧ ¬ Rng σ2 J) ?_ 4200
    ⟨0, ρ, H1, σ1, h, st2.toO, I1.more g2, F.stp st2, hi2, nJ⟩
  rintro m s' ⟨k, ρ1, H2, σ2, hg, st, I', F', hi', nJ'⟩
  obtain ⟨oJ', hoJ', hiJ'⟩ := hi'.obj
  cases m with
  | zero => (first | exact nosome hg | exact nofalse hg | cases hg)
  | succ m =>
    unfold forGo at hg
    split at hg
    · rename_i z hz
      refine (next_ok hh I' hi' nJ' hz).to ?_
      rintro q s5 ⟨g5, ⟨h5, t5, rfl⟩, v, rfl, hv, hi5⟩
      obtain ⟨I5, k5⟩ := I'.butE hoJ' (not_imm hiJ'.1) nJ' hbJ g5
      have st5 := st.viaO (StpO.butE (t := t5) g5) (fun c hc => .inr (hc ▸ hsJ)) F'.owned
      have F5 := F'.butE hoJ' hiJ' g5
      simp only [bindT] at hg
      refine (ok_assign_Name (store_var hx I5 F5 hv)).to ?_
      rintro _ s6 ⟨st6, I6, F6⟩
      obtain ⟨oJ5, hoJ5, hiJ5⟩ := hi5.obj
      have k6 : KeepI σ2 h5 s6.heap := fun b o e n im => st6.grow b o e n fun own => by
        obtain ⟨_, _, o', ho', ni⟩ := F5.own own
        rw [e] at ho'; cases ho'; exact ni im
      have hi6 : ItAt s6.heap σ2 J (k + 1) y := hi5.step k6 st6.ext fun o e => st6.grow _ _ e nJ' nO
      obtain ⟨oJ6, hoJ6, hiJ6⟩ := hi6.obj
      have stt := st5.trans st6 F5.owned
      have fin : ∀ {σ7 : Sg} {s7 : Shared} {ρ3 : Rho} {H3 : Hp}, forGo (.one i) y (evS P C eb) m (k + 1) ρ3 H3 = some (r, ρ', H') → StpO (Own nm env) σ2 σ7 s6 s7 → Inv T w base σ7 H3 s7.heap → Frm nm env base s7.heap σ7 ρ3 →
          ∃ m', m' < m + 1 ∧ ∃ k ρ1 H2 σ2, forGo (.one i) y (evS P C eb) m' k ρ1 H2 = some (r, ρ', H') ∧ StpO (Own nm env) σ σ2 s s7 ∧ Inv T w base σ2 H2 s7.heap ∧ Frm nm env base s7.heap σ2 ρ1 ∧ ItAt s7.heap σ2 J k y ∧ ¬ Rng σ2 J := fun {σ7 s7 ρ3 H3} hg st7 I7 F7 => by
        have k7 : KeepI σ2 s6.heap s7.heap := fun b o e n im => st7.grow b o e n fun own => by
          obtain ⟨_, _, o', ho', ni⟩ := F6.own own
          rw [e] at ho'; cases ho'; exact ni im
        exact ⟨m, Nat.lt_succ_self _, k + 1, ρ3, H3, σ7, hg, stt.trans st7 F6.owned, I7, F7, hi6.step k7 st7.ext fun o e => st7.grow _ _ e nJ' nO, st7.ext.notRng hoJ6 nJ'⟩
      split at hg
      · rename_i ρ3 H3 h3
        refine (hb _ _ _ _ _ σ2 s6 h3 I6 F6).to ?_
        rintro f s7 ⟨σ7, st7, I7, rfl, F7⟩
        exact fin hg st7 I7 F7
      · rename_i ρ3 H3 h3
        refine (hb _ _ _ _ _ σ2 s6 h3 I6 F6).to ?_
        rintro f s7 ⟨σ7, st7, I7, rfl, F7⟩
        exact fin hg st7 I7 F7
      · rename_i hn1 hn2
        refine (hb _ _ _ _ _ σ2 s6 hg I6 F6).to ?_
        rintro f s7 ⟨σ7, st7, I7, h7⟩
        cases r with
        | next => exact absurd hg (hn1 _ _)
        | cont => exact absurd hg (hn2 _ _)
        | ret v => obtain ⟨val, rfl, hv⟩ := h7; exact ⟨σ7, stt.trans st7 F6.owned, I7, val, rfl, hv⟩
    · rename_i hz
      first | (replace hg := s3 hg; obtain ⟨rfl, rfl, rfl⟩ := hg) | (replace hg := s2 hg; obtain ⟨rfl, rfl⟩ := hg) | (first | exact nosome hg | exact nofalse hg | cases hg)
      refine (next_ok hh I' hi' nJ' hz).to ?_
      rintro q s5 ⟨g5, ⟨h5, t5, rfl⟩, rfl⟩
      obtain ⟨I5, k5⟩ := I'.butE hoJ' (not_imm hiJ'.1) nJ' hbJ g5
      have st5 := st.viaO (StpO.butE (t := t5) g5) (fun c hc => .inr (hc ▸ hsJ)) F'.owned
      exact wpAny_execs_nil ⟨σ2, st5, I5, rfl, F'.butE (J := J) hoJ' hiJ' g5⟩
    · (first | exact nosome hg | exact nofalse hg | cases hg)
end
end Mine
set_option linter.unusedSimpArgs false
namespace Mine
open PySem PySem.W PyProof.Rows PySem.MeetsSeq PySem.SeqAt PyProof.Rows.LCg
set_option tactic.hygienic true in
theorem names_of {f : Expr → Option Str} (hf : ∀ x p, f (.Name x p) = some x ∨ f (.Name x p) = none) : ∀ {ts : List Expr} {xs : List Str}, optList nameOf? ts = some xs → (ts.filterMap f).length = ts.length → ts.filterMap f = xs
  | [], xs, h, _ => by cases h; rfl
  | t :: ts, xs, h, hl => by
    unfold optList at h
    split at h
    · rename_i a b h1 h2
      first | (replace h := s3 h; obtain ⟨h1', h2', h3'⟩ := h; subst h1'; cases h2'; (first | exact nosome h3' | exact nofalse h3' | cases h3')) | (replace h := s2 h; obtain ⟨rfl, rfl⟩ := h) | (first | exact nosome h | exact nofalse h | cases h)
      have le := List.length_filterMap_le f ts
      cases t <;> first | cases h1 | skip
      rename_i p
      rcases hf a p with q | q
      · rw [List.filterMap_cons_some q] at hl ⊢
        rw [names_of hf h2 (by simpa using hl)]
      · rw [List.filterMap_cons_none q] at hl
        simp at hl
        omega
    · (first | exact nosome h | exact nofalse h | cases h)
set_option tactic.hygienic true in
theorem swap_cases {env : Env} {ts : List Expr} {xs : List Str} {v : Expr} {k : Nat} {tp : Pos} (hn : optList nameOf? ts = some xs) (hsb : swapBad v = false) :
    swappedStores [.Tuple ts k tp] v env = pure none ∨ swappedStores [.Tuple ts k tp] v env = pure (some xs) := by
  (first | exact nosome v | exact nofalse v | cases v)
  case Tuple vs k' p' =>
    unfold swappedStores
    dsimp only
    split
    · exact .inl rfl
    · split
      · exact .inl rfl
      · split
        · exact .inl rfl
        · rename_i hnm
          simp only [Bool.or_eq_true, bne_iff_ne, ne_eq, not_or, Decidable.not_not] at hnm
          have := names_of (fun x p => by dsimp only; split <;> simp) hn hnm.1
          rw [this]
          split
          · exact .inl rfl
          · have hsb : (vs.all (constantsAlone 8)) = false := hsb
            rw [if_neg (by rw [hsb]; decide)]
            exact .inr rfl
  all_goals exact .inl rfl
section
variable {prog : Program} {w : World} {T : Tb} {base : Heap} {P : Pg} {C : CallT} {A : Around} {nm nm1 : Nm} {env : Env} {s : Shared} {σ : Sg} {ρ : Rho} {H : Hp} {K : Frag} {fa : List Addr} {n : Nat} {G : Gt}
theorem stores_assign {x : Str} {p : Pos} : Stores prog w A env x (assign (.Name x p) env) := fun v s Q h => ok_assign_Name h
theorem stores_bind {x : Str} : Stores prog w A env x (fun v => bindName env x v) := fun v s Q h => h
set_option tactic.hygienic true in
theorem all_assign : ∀ {ts : List Expr} {xs : List Str}, optList nameOf? ts = some xs → AllStores prog w A env xs ((assignEach ts env).map (·.2)) ∧ (assignEach ts env).length = ts.length ∧ (assignEach ts env).findIdx? (·.1) = none ∧ xs.length = ts.length
  | [], xs, h => by cases h; exact ⟨.nil, rfl, rfl, rfl⟩
  | t :: ts, xs, h => by
    unfold optList at h
    split at h
    · rename_i a b h1 h2
      first | (replace h := s3 h; obtain ⟨h1', h2', h3'⟩ := h; subst h1'; cases h2'; (first | exact nosome h3' | exact nofalse h3' | cases h3')) | (replace h := s2 h; obtain ⟨rfl, rfl⟩ := h) | (first | exact nosome h | exact nofalse h | cases h)
      obtain ⟨q1, q2, q3, q4⟩ := all_assign h2
      cases t <;> first | cases h1 | skip
      rename_i p
      have e : assignEach (.Name a p :: ts) env = (false, assign (.Name a p) env) :: assignEach ts env := rfl
      rw [e]
      refine ⟨.cons stores_assign q1, by simp [q2], ?_, by simp [q4]⟩
      rw [List.findIdx?_cons, q3]
      rfl
    · (first | exact nosome h | exact nofalse h | cases h)
theorem all_bind : ∀ xs : List Str, AllStores prog w A env xs (xs.map fun n => bindName env n)
  | [] => .nil
  | _ :: xs => .cons stores_bind (all_bind xs)
theorem AllVars.len {sc : Scope} : ∀ {xs : List Str} {is : List Nat}, AllVars sc nm xs is → xs.length = is.length
  | _, _, .nil => rfl
  | _, _, .cons _ t => by simp [t.len]
set_option tactic.hygienic true in
theorem ss_asgT (hh : A.handled = none) {ts : List Expr} {xs : List Str} {is : List Nat} {v : Expr} {e : E} {k : Nat} {tp pos : Pos} (hn : optList nameOf? ts = some xs) (hv : optList (cVar env.scope nm) xs = some is) (hd : noDup is = true) (hsb : swapBad v = false) (he : SE prog w T base P C A nm env v e) :
    SS prog w T base P C A nm env (.Assign [.Tuple ts k tp] v pos) (.asgT is e) := by
  intro ρ H r ρ' H' σ s h I F
  have h : ∃ y l H1 ρ1, evE P C e ρ H = some (y, H1) ∧ frozenOf y = some l ∧ setAll is l ρ = some ρ1 ∧ r = .next ∧ ρ' = ρ1 ∧ H' = H1 := by
    simp only [evS, s_skip, s_seq, s_asg, s_asgT, s_setA, s_setI, s_ex, s_ite, s_whl, s_forS, s_ret, s_retF, s_cont, s_bad] at h
    split at h
    · rename_i l H1 h1
      split at h
      · rename_i ρ1 h2; (first | (replace h := s3 h; obtain ⟨h1', h2', h3'⟩ := h; subst h1'; cases h2'; (first | exact nosome h3' | exact nofalse h3' | cases h3')) | (replace h := s2 h; obtain ⟨rfl, rfl⟩ := h) | (first | exact nosome h | exact nofalse h | cases h)); exact ⟨_, l, _, _, h1, rfl, h2, rfl, rfl, rfl⟩
      · (first | exact nosome h | exact nofalse h | cases h)
    · rename_i l H1 h1
      split at h
      · rename_i ρ1 h2; (first | (replace h := s3 h; obtain ⟨h1', h2', h3'⟩ := h; subst h1'; cases h2'; (first | exact nosome h3' | exact nofalse h3' | cases h3')) | (replace h := s2 h; obtain ⟨rfl, rfl⟩ := h) | (first | exact nosome h | exact nofalse h | cases h)); exact ⟨_, l, _, _, h1, rfl, h2, rfl, rfl, rfl⟩
      · (first | exact nosome h | exact nofalse h | cases h)
    · (first | exact nosome h | exact nofalse h | cases h)
  obtain ⟨y, l, H1, ρ1, h1, hf, h2, rfl, rfl, rfl⟩ := h
  have av := vars_of hv
  obtain ⟨q1, q2, q3, q4⟩ := all_assign (prog := prog) (w := w) (A := A) (env := env) hn
  have hlen : xs.length = l.length := av.len.trans (setAll_len h2)
  show wpAny _ _ _ _ _ _
  rw [exec_Assign (env := env)]
  refine wpAny_bind (wpAny_standAt ?_)
  rw [show swapsWithSole [.Tuple ts k tp] v pos.line env = pure false from swaps_tup (env := env) v ts k tp pos.line]
  refine wpAny_bind (wpAny_pure ?_)
  rw [if_neg (by decide)]
  refine wpAny_bind ((he ρ H y _ σ s h1 I F).to ?_)
  rintro val s1 ⟨σ1, st1, I1, v1⟩
  have F1 := F.stp st1
  rcases swap_cases (env := env) (k := k) (tp := tp) hn hsb with q | q
  · rw [q]
    refine wpAny_bind (wpAny_pure ?_)
    unfold assignStores
    dsimp only
    refine wpAny_bind ?_
    show wpAny _ _ (assign (.Tuple ts k tp) env val) _ _ s1
    rw [PyProof.Rows.assign_Tuple]
    refine wpAny_bind (wpAny_standAt ?_)
    unfold unpack
    rw [q2, q3, ← q4, hlen]
    refine wpAny_bind (wpAny_holding ((unpack_ok hh I1 hf v1).to ?_))
    rintro items s2 ⟨st2, I2, v2⟩
    have F2 := F1.stp st2
    refine (store_names av q1 h2 v2 I2 F2).to ?_
    rintro _ s3 ⟨st3, I3, F3⟩
    exact wpAny_pure (PS.next ((st1.trans st2).toO.trans st3 F2.owned) I3 F3)
  · rw [q]
    refine wpAny_bind (wpAny_pure ?_)
    unfold assignStores
    dsimp only
    refine wpAny_bind (wpAny_rule ?_)
    rw [hlen]
    refine wpAny_bind ((unpack_ok hh I1 hf v1).to ?_)
    rintro items s2 ⟨st2, I2, v2⟩
    have F2 := F1.stp st2
    refine wpAny_bind ((store_names av.rev (all_bind xs.reverse) (setAll_rev hd h2) v2.reverse I2 F2).to ?_)
    rintro _ s3 ⟨st3, I3, F3⟩
    exact wpAny_pure (PS.next ((st1.trans st2).toO.trans st3 F2.owned) I3 F3)
end
end Mine
set_option linter.unusedSimpArgs false
namespace Mine
open PySem PySem.W PyProof.Rows PySem.MeetsSeq PySem.SeqAt PyProof.Rows.LCg
theorem Frm.butO {nm : Nm} {env : Env} {base h h' : Heap} {σ : Sg} {ρ : Rho} (F : Frm nm env base h σ ρ) {J : Addr} (hJ : ¬ Own nm env J) (k : KeepI σ h h') (hs : ∀ b x, b ≠ J → h.get? b = some x → h'.get? b = some x) : Frm nm env base h' σ ρ := by
  obtain ⟨m, ⟨om, es, ep, hom, hd, hr⟩, hv⟩ := F.ns
  refine ⟨F.kind, F.glob, F.blt, F.locN, F.locB, ⟨m, ⟨om, es, ep, hs _ _ (fun q => hJ (.inl q.symm)) hom, hd, hr⟩, fun x i hx hk v hr => ?_⟩, fun x i hx hk => ?_, F.apart, F.inj⟩
  · obtain ⟨val, h1, h2⟩ := hv x i hx hk v hr
    exact ⟨val, h1, h2.step k (.refl ..)⟩
  · obtain ⟨c, hc, hn, hb, cv, ⟨oc, hoc, hd⟩, hv'⟩ := F.cells x i hx hk
    refine ⟨c, hc, hn, hb, cv, ⟨oc, hs _ _ (fun q => hJ (.inr ⟨x, i, hx, hk, q ▸ hc⟩)) hoc, hd⟩, fun v hr => ?_⟩
    obtain ⟨val, h1, h2⟩ := hv' v hr
    exact ⟨val, h1, h2.step k (.refl ..)⟩
section
variable {prog : Program} {w : World} {T : Tb} {base : Heap} {P : Pg} {C : CallT} {A : Around} {nm nm1 : Nm} {env : Env} {s : Shared} {σ : Sg} {ρ : Rho} {H : Hp} {K : Frag} {fa : List Addr} {n : Nat} {G : Gt}
theorem swaps_comp (elt : Expr) (gens : List Comprehension) (csc : Scope) (p : Pos) (x : Str) (px : Pos) (l : Nat) : swapsWith (.ListComp elt gens csc p) (some (.Name x px)) l env = pure true ∨ swapsWith (.ListComp elt gens csc p) (some (.Name x px)) l env = pure false := by
  have : ∃ b, swapsWith (.ListComp elt gens csc p) (some (.Name x px)) l env = pure b := ⟨_, rfl⟩
  obtain ⟨b, hb⟩ := this
  (first | exact nosome b | exact nofalse b | cases b)
  · exact .inr hb
  · exact .inl hb
set_option tactic.hygienic true in
theorem comp_leave {x : Str} {i : Nat} {px : Pos} {Cd D : Addr} {s' : Shared} {σ' σ3 : Sg} {H3 : Hp} {y : V} (hx : cVar env.scope nm x = some i) (F : Frm nm env base s.heap σ ρ) (st : Stp σ σ' s s') (hsC : ∀ o, s.heap.get? Cd = some o → Rng σ Cd) (hm : ∃ m, s'.heap.Ns Cd m) (nC : ¬ Rng σ' Cd) (hbC : base.get? Cd = none)
    (e3 : SExt σ' σ3 s'.heap) (I3 : Inv T w base σ3 H3 s'.heap) (v3 : VR s'.heap σ3 y (.ref D)) :
    wpAny (model prog w) A (assign (.Name x px) env (.ref D)) (fun _ s'' => ∃ m, s''.heap.Ns Cd m ∧ ∀ h', Heap.SameBut Cd s''.heap h' → PS T w base nm env σ s .next (ρ.set i (some y)) H3 .next { s'' with heap := h' }) (fun _ _ => False) s' := by
  have F' := F.stp st
  have F3 : Frm nm env base s'.heap σ3 ρ := F'.step (fun _ _ e _ => e) e3
  have st3 : StpO (Own nm env) σ σ3 s s' := st.toO.trans ⟨fun _ _ e _ _ => e, e3, rfl, rfl, rfl⟩ F'.owned
  have nO : ¬ Own nm env Cd := fun q => by
    obtain ⟨nr, _, o, ho, _⟩ := F.own q
    exact nr (hsC o ho)
  obtain ⟨m, om, es, ep, hom, hd, hr⟩ := hm
  have nC3 : ¬ Rng σ3 Cd := e3.notRng hom nC
  refine (ok_assign_Name (store_var hx I3 F3 v3)).to ?_
  rintro _ s4 ⟨st4, I4, F4⟩
  have hom4 := st4.grow _ _ hom nC3 nO
  refine ⟨m, ⟨om, es, ep, hom4, hd, hr⟩, fun h' hs => ?_⟩
  have ni : ¬ Imm om := fun im => im.1 _ _ hd
  have g : ∀ b o, b ≠ Cd → s4.heap.get? b = some o → h'.get? b = some o := fun b o n e => (hs.2 b n).trans e
  obtain ⟨I5, k5⟩ := I4.butE hom4 ni nC3 hbC g
  exact PS.next ((st3.trans st4 F3.owned).viaO (⟨fun b o e _ n => g b o n e, .refl .., rfl, rfl, rfl⟩ : StpO (fun a => a = Cd) σ3 σ3 s4 { s4 with heap := h' }) (fun c hc => .inr (hc ▸ hsC)) F4.owned) I5 (F4.butO nO k5 g)
set_option tactic.hygienic true in
theorem ss_asgC {x : Str} {i : Nat} {px spos : Pos} {iter elt tge : Expr} {ifs : List Expr} {csc : Scope} {pos : Pos} {iri ex ec : E} {tg : Tg} (hh : A.handled = none) (hu : A.units + 20 < cLine) (hv : cVar env.scope nm x = some i) (hns : notSet iter = true)
    (hit : SE prog w T base P C A nm env iter iri) (S : ScOk env.scope csc nm nm1 tge) (ht : cTg (relab env.scope csc) nm1 tge = some tg)
    (hx : ∀ cl Cd, SE prog w T base P C A nm1 (compEnvC csc cl Cd env) elt ex) (hc : ∀ cl Cd, CondOk prog w T base P C A nm1 (compEnvC csc cl Cd env) ifs ec) :
    SS prog w T base P C A nm env (.Assign [.Name x px] (.ListComp elt [⟨tge, iter, ifs, 0⟩] csc pos) spos) (.asg i (.comp ex tg iri ec)) := by
  rcases swaps_comp (env := env) elt [⟨tge, iter, ifs, 0⟩] csc pos x px spos.line with hs | hs
  · intro ρ H r ρ' H' σ s h I Fm
    simp only [evS, s_skip, s_seq, s_asg, s_asgT, s_setA, s_setI, s_ex, s_ite, s_whl, s_forS, s_ret, s_retF, s_cont, s_bad] at h
    split at h
    case h_2 => (first | exact nosome h | exact nofalse h | cases h)
    rename_i y H3 h0
    first | (replace h := s3 h; obtain ⟨h1', h2', h3'⟩ := h; subst h1'; cases h2'; (first | exact nosome h3' | exact nofalse h3' | cases h3')) | (replace h := s2 h; obtain ⟨rfl, rfl⟩ := h) | (first | exact nosome h | exact nofalse h | cases h)
    have h : (match evE P C iri ρ H with
      | some (x, H) => match compOver tg (bodyOf P C ex tg ec ρ) x H with
        | some (vs, H1) => some (.lst vs, H1.set H.length .dead)
        | Option.none => Option.none
      | Option.none => Option.none) = some (y, H') := h0
    split at h
    case h_2 => (first | exact nosome h | exact nofalse h | cases h)
    rename_i z H1 h1
    split at h
    case h_2 => (first | exact nosome h | exact nofalse h | cases h)
    rename_i vs H2 h2
    first | (replace h := s3 h; obtain ⟨h1', h2', h3'⟩ := h; subst h1'; cases h2'; (first | exact nosome h3' | exact nofalse h3' | cases h3')) | (replace h := s2 h; obtain ⟨rfl, rfl⟩ := h) | (first | exact nosome h | exact nofalse h | cases h)
    show wpAny _ _ _ _ _ _
    rw [exec_Assign_Name_used _ _ _ _ hs]
    refine wpAny_bind (wpAny_standAt (wpAny_bind ?_))
    show wpAny _ A (do let _ ← comprehension (.ListComp elt [⟨tge, iter, ifs, 0⟩] csc pos) csc env _ (newList []) false (eval iter env) (some (assign (.Name x px) env))) _ _ s
    refine wpAny_bind ((comp_any (Q := fun _ s' => PS T w base nm env σ s .next (ρ.set i (some (.lst vs))) (H2.set H1.length .dead) .next s') (use := some (assign (.Name x px) env)) hh hu hns hit S ht hx hc h1 h2 I Fm fun D Cd s' σ' st I' hl vD hsC hm nC hb => ?_).to fun _ s' hq => wpAny_pure (wpAny_pure hq))
    obtain ⟨I3, e3, v3⟩ := I'.kill hl vD
    exact comp_leave hv Fm st hsC hm nC hb e3 I3 v3
  · exact ss_asg' hs hv (se_comp hh hu hns hit S ht hx hc)
end
end Mine
set_option linter.unusedSimpArgs false
namespace Mine
open PySem PySem.W PyProof.Rows PySem.MeetsSeq PySem.SeqAt PyProof.Rows.LCg
structure PlainPar (p : Arguments) : Prop where
  pos : p.posonlyargs = []
  va : p.vararg = none
  kwo : p.kwonlyargs = []
  kwa : p.kwarg = none
  dfl : p.defaults = []
set_option tactic.hygienic true in
theorem zip_look : ∀ {xs : List Str} {vs : List Value}, xs.length = vs.length → ∀ x ∈ xs, ((xs.zip vs).lookup x).isSome = true
  | [], _, _, _, h => by (first | exact nosome h | exact nofalse h | cases h)
  | y :: xs, [], h, _, _ => by (first | exact nosome h | exact nofalse h | cases h)
  | y :: xs, v :: vs, h, x, hx => by
    simp only [List.zip_cons_cons, List.lookup_cons]
    split
    · rfl
    · rename_i q
      rcases List.mem_cons.mp hx with rfl | hx
      · simp at q
      · exact zip_look (by simpa using h) x hx
theorem fmap_congr {α β : Type} {f g : α → Option β} : ∀ {l : List α}, (∀ x ∈ l, f x = g x) → l.filterMap f = l.filterMap g
  | [], _ => rfl
  | x :: l, h => by
    rw [List.filterMap_cons, List.filterMap_cons, h x (.head _), fmap_congr fun y hy => h y (.tail _ hy)]
theorem zip_binds : ∀ {xs : List Str} {vs : List Value}, xs.length = vs.length → xs.Nodup → (xs.filterMap fun n => ((xs.zip vs).lookup n).map (n, ·)) = xs.zip vs
  | [], [], _, _ => rfl
  | [], _ :: _, h, _ => by (first | exact nosome h | exact nofalse h | cases h)
  | _ :: _, [], h, _ => by (first | exact nosome h | exact nofalse h | cases h)
  | x :: xs, v :: vs, h, hn => by
    rw [List.nodup_cons] at hn
    have ih := zip_binds (xs := xs) (vs := vs) (by simpa using h) hn.2
    rw [List.zip_cons_cons, List.filterMap_cons_some (b := (x, v)) (by simp [List.lookup_cons])]
    refine congrArg _ (Eq.trans (fmap_congr fun y hy => ?_) ih)
    have : (y == x) = false := by rw [beq_eq_false_iff_ne]; rintro rfl; exact hn.1 hy
    simp [List.lookup_cons, this]
theorem bind_plain {fd : FuncData} {vals : List Value} (hp : PlainPar fd.params) (hd : fd.defaults = .none) (hk : fd.kwdefaults = .none) (hl : fd.params.args.length = vals.length) (hn : (fd.params.args.map (·.arg)).Nodup) :
    bindArgs fd ⟨vals, []⟩ = pure ((fd.params.args.map (·.arg)).zip vals) := by
  obtain ⟨name, qual, ⟨a1, a2, a3, a4, a5, a6, a7⟩, body, scope, gl, clo, dfl, kdfl⟩ := fd
  obtain ⟨h1, h2, h3, h4, h5⟩ := hp
  dsimp only at h1 h2 h3 h4 h5 hd hk hl
  subst h1 h2 h3 h4 h5 hd hk
  have hl' : (a2.map (·.arg)).length = vals.length := by simpa using hl
  have hmiss : ((a2.map (·.arg)).filter fun n => (((a2.map (·.arg)).zip vals).lookup n).isNone) = [] := by
    rw [List.filter_eq_nil_iff]
    intro x hx
    have := zip_look hl' x hx
    rw [Option.isSome_iff_exists] at this
    obtain ⟨v, hv⟩ := this
    simp [hv]
  have hs : seqItems? Value.none = pure none := by rfl
  have hz := zip_binds hl' hn
  unfold bindArgs
  simp only [List.map_nil, List.nil_append, List.forIn_nil, hs, pure_bind, Option.getD_none, List.length_nil, List.drop_nil, Nat.sub_zero, List.drop_length, List.zip_nil_right, List.take_length, hmiss, List.isEmpty_nil, Bool.not_true, Bool.false_eq_true, if_false, List.append_nil]
  rw [if_neg (by simp [hl]), hz]
theorem own_slot : ∀ {l : List (Str × NameKind)} {i : Nat} {x : Str} {j : Nat}, (x, j) ∈ ownNm l i → i ≤ j
  | [], _, _, _, h => by (first | exact nosome h | exact nofalse h | cases h)
  | (n, k) :: l, i, x, j, h => by
    unfold ownNm at h
    cases k with
    | «local» =>
      rcases List.mem_cons.mp h with e | h
      · cases e; exact Nat.le_refl _
      · exact Nat.le_of_succ_le (own_slot h)
    | cell =>
      rcases List.mem_cons.mp h with e | h
      · cases e; exact Nat.le_refl _
      · exact Nat.le_of_succ_le (own_slot h)
    | _ => exact own_slot h
theorem own_noDup : ∀ (l : List (Str × NameKind)) (i : Nat), noDup ((ownNm l i).map (·.2)) = true
  | [], _ => rfl
  | (n, k) :: l, i => by
    have step : noDup (((n, i) :: ownNm l (i + 1)).map (·.2)) = true := by
      simp only [List.map_cons, noDup, Bool.and_eq_true, Bool.not_eq_true', List.any_eq_false]
      refine ⟨fun j hj => ?_, own_noDup l (i + 1)⟩
      obtain ⟨⟨x, j'⟩, hm, rfl⟩ := List.mem_map.mp hj
      have := own_slot hm
      intro q
      have := Nat.eq_of_beq_eq_true q
      dsimp only at this
      omega
    unfold ownNm
    cases k with
    | «local» => exact step
    | cell => exact step
    | _ => exact own_noDup l i
theorem own_mem : ∀ {l : List (Str × NameKind)} {i : Nat} {x : Str} {j : Nat}, (x, j) ∈ ownNm l i → (x, NameKind.local) ∈ l ∨ (x, NameKind.cell) ∈ l
  | [], _, _, _, h => by (first | exact nosome h | exact nofalse h | cases h)
  | (n, k) :: l, i, x, j, h => by
    have tl : ∀ {i}, (x, j) ∈ ownNm l i → (x, NameKind.local) ∈ (n, k) :: l ∨ (x, NameKind.cell) ∈ (n, k) :: l := fun h => (own_mem h).imp (.tail _) (.tail _)
    unfold ownNm at h
    cases k with
    | «local» =>
      rcases List.mem_cons.mp h with e | h
      · cases e; exact .inl (.head _)
      · exact tl h
    | cell =>
      rcases List.mem_cons.mp h with e | h
      · cases e; exact .inr (.head _)
      · exact tl h
    | _ => exact tl h
theorem cells_keep {x : Str} : ∀ (l : List (Str × NameKind)) (n : Nat) (acc : List (Str × Addr)), (acc.lookup x).isSome = true → ((cellsFrom n l acc).lookup x).isSome = true
  | [], _, _, h => h
  | (m, k) :: l, n, acc, h => by
    unfold cellsFrom
    split
    · refine cells_keep l _ _ ?_
      simp only [List.lookup_cons]
      split
      · rfl
      · exact h
    · exact cells_keep l _ _ h
theorem cells_has {x : Str} : ∀ (l : List (Str × NameKind)) (n : Nat) (acc : List (Str × Addr)), (x, NameKind.cell) ∈ l → ((cellsFrom n l acc).lookup x).isSome = true
  | [], _, _, h => by (first | exact nosome h | exact nofalse h | cases h)
  | (m, k) :: l, n, acc, h => by
    unfold cellsFrom
    rcases List.mem_cons.mp h with e | h
    · (first | exact nosome e | exact nofalse e | cases e)
      rw [if_pos (by decide)]
      exact cells_keep l _ _ (by simp)
    · split
      · exact cells_has l _ _ h
      · exact cells_has l _ _ h
section
variable {prog : Program} {w : World} {T : Tb} {base : Heap} {P : Pg} {C : CallT} {A : Around} {nm nm1 : Nm} {env : Env} {s : Shared} {σ : Sg} {ρ : Rho} {H : Hp} {K : Frag} {fa : List Addr} {n : Nat} {G : Gt}
noncomputable def ParI (sc : Scope) (nm : Nm) (h : Heap) (σ : Sg) (ρ : Rho) (m cm : Str → Option Value) : Prop := ∀ x i, nfind x nm = some i → ∀ v, ρ[i]? = some (some v) →
  (sc.names.lookup x = some .local → ∃ val, m x = some val ∧ VR h σ v val) ∧ (sc.names.lookup x = some .cell → ∃ val, cm x = some val ∧ VR h σ v val)
set_option tactic.hygienic true in
theorem cVar_kind {sc : Scope} {x : Str} {i : Nat} (h : cVar sc nm x = some i) : (sc.names.lookup x = some .local ∨ sc.names.lookup x = some .cell) ∧ nfind x nm = some i := by
  unfold cVar isLocalOrCell at h
  split at h
  · rename_i q; exact ⟨.inl q, by simpa using h⟩
  · rename_i q; exact ⟨.inr q, by simpa using h⟩
  · (first | exact nosome h | exact nofalse h | cases h)
theorem par_ok {sc : Scope} {h : Heap} (inj : ∀ x y i, nfind x nm = some i → nfind y nm = some i → x = y) : ∀ {xs : List Str} {is : List Nat} {l : List V} {vals : List Value} {ρ ρ' : Rho} {m cm : Str → Option Value}, AllVars sc nm xs is → setAll is l ρ = some ρ' → VRs h σ l vals → ParI sc nm h σ ρ m cm →
    ParI sc nm h σ ρ' (bindL (fun x => sc.names.lookup x) (xs.zip vals) m) (bindC (fun x => sc.names.lookup x) (xs.zip vals) cm)
  | _, _, l, vals, ρ, ρ', m, cm, .nil, e, hv, hp => by
    cases l with
    | nil => cases e; rw [show vals = [] from hv]; exact hp
    | cons => (first | exact nosome e | exact nofalse e | cases e)
  | _, _, l, vals, ρ, ρ', m, cm, .cons (x := x) (i := i) hx hxs, e, hv, hp => by
    cases l with
    | nil => (first | exact nosome e | exact nofalse e | cases e)
    | cons y l =>
      obtain ⟨v, r, rfl, h1, h2⟩ := hv
      unfold setAll at e
      obtain ⟨hk, hi⟩ := cVar_kind hx
      rw [List.zip_cons_cons]
      unfold bindL bindC
      refine par_ok inj hxs e h2 fun z j hz u hu => ?_
      rcases set_get hu with ⟨rfl, rfl⟩ | ⟨hij, hu⟩
      · have : z = x := inj _ _ _ hz hi
        subst this
        refine ⟨fun q => ⟨v, by simp [q], h1⟩, fun q => ⟨v, ?_, h1⟩⟩
        rw [if_neg (by rw [q]; decide)]; simp
      · have hzx : z ≠ x := fun q => hij (by subst q; rw [hz] at hi; exact (Option.some.inj hi).symm)
        obtain ⟨p1, p2⟩ := hp z j hz u hu
        refine ⟨fun q => ?_, fun q => ?_⟩
        · obtain ⟨val, e1, e2⟩ := p1 q
          refine ⟨val, ?_, e2⟩
          split <;> simp [hzx, e1]
        · obtain ⟨val, e1, e2⟩ := p2 q
          refine ⟨val, ?_, e2⟩
          split <;> simp [hzx, e1]
theorem rho0_none : ∀ (n i : Nat) (v : V), (rho0 n)[i]? ≠ some (some v)
  | 0, i, v => by simp [rho0]
  | n + 1, 0, v => by simp [rho0]
  | n + 1, i + 1, v => by simpa [rho0] using rho0_none n i v
structure FnAt (base : Heap) (G : Gt) (a : Addr) (fd : FuncData) : Prop where
  at' : ∃ o, base.get? a = some o ∧ o.data = .func fd
  code : base.CodeRec fd.code fd.qualname
  clo : fd.closure = []
  glob : fd.globals = mainGlobals
  blt : fd.builtins = builtinsNs
  dfl : fd.defaults = .none
  kwd : fd.kwdefaults = .none
structure FnOk (G : Gt) (hl : List Str) (fd : FuncData) (fn : Fn) (body : List Stmt) : Prop where
  sc : okFnScope fd.scope = true
  par : PlainPar fd.params
  bd : fd.body = .stmts body
  vars : optList (cVar fd.scope (ownNm fd.scope.names 0)) (fd.params.args.map (·.arg)) = some fn.params
  comp : cSs (cS G (ownNm fd.scope.names 0).length fd.scope (ownNm fd.scope.names 0) hl 100) body = some fn.body
  nd : noDup fn.params = true
set_option tactic.hygienic true in
theorem fnOk_of {hl : List Str} {fd : FuncData} {fn : Fn} (h : cFn G hl fd = some fn) : ∃ body, FnOk G hl fd fn body := by
  unfold cFn at h
  dsimp only at h
  split at h
  case isFalse => (first | exact nosome h | exact nofalse h | cases h)
  rename_i hc
  simp only [Bool.and_eq_true, List.isEmpty_iff, Option.isNone_iff_eq_none] at hc
  obtain ⟨⟨⟨⟨⟨h1, h2⟩, h3⟩, h4⟩, h5⟩, h6⟩ := hc
  split at h
  case h_2 => (first | exact nosome h | exact nofalse h | cases h)
  rename_i body hb
  split at h
  case h_2 => (first | exact nosome h | exact nofalse h | cases h)
  rename_i ps st q1 q2
  split at h
  case isFalse => (first | exact nosome h | exact nofalse h | cases h)
  rename_i hd
  first | (replace h := s3 h; obtain ⟨h1', h2', h3'⟩ := h; subst h1'; cases h2'; (first | exact nosome h3' | exact nofalse h3' | cases h3')) | (replace h := s2 h; obtain ⟨rfl, rfl⟩ := h) | (first | exact nosome h | exact nofalse h | cases h)
  exact ⟨body, h1, ⟨h2, h3, h4, h5, h6⟩, hb, q1, q2, hd⟩
theorem vars_nodup {sc : Scope} : ∀ {xs : List Str} {is : List Nat}, AllVars sc nm xs is → noDup is = true → xs.Nodup
  | _, _, .nil, _ => List.nodup_nil
  | _, _, .cons (x := x) (i := i) (xs := xs) (is := is) hx hxs, hd => by
    simp only [noDup, Bool.and_eq_true, Bool.not_eq_true', List.any_eq_false] at hd
    rw [List.nodup_cons]
    refine ⟨fun hm => ?_, vars_nodup hxs hd.2⟩
    have : ∀ {xs : List Str} {is : List Nat}, AllVars sc nm xs is → x ∈ xs → i ∈ is := fun h => by
      induction h with
      | nil => intro hm; (first | exact nosome hm | exact nofalse hm | cases hm)
      | cons h1 h2 ih =>
        intro hm
        rcases List.mem_cons.mp hm with rfl | hm
        · rw [hx] at h1; cases h1; exact .head _
        · exact .tail _ (ih hm)
    exact hd.1 i (this hxs hm) (Nat.beq_refl i)
theorem BudB.deeper (h : Bud (n + 1) A) (env : Env) : BudB n (A.deeper env) := by
  obtain ⟨h1, h2, h3⟩ := h
  exact ⟨by show A.units + 3 + 20 * n + 70 < cLine; omega, by show A.depth + 1 + 4 * n + 10 < recursionLimit; omega, h3⟩
set_option tactic.hygienic true in
theorem fn_code {a : Addr} {fd : FuncData} {fn : Fn} {hl : List Str} {body : List Stmt} (hlim : base.NoLimit) (FA : FnAt base G a fd) (FO : FnOk G hl fd fn body) (hb : Bud (n + 1) A)
    (hbody : ∀ A', BudB n A' → ∀ env : Env, env.scope = fd.scope → SSs prog w T base P C A' (ownNm fd.scope.names 0) env body fn.body)
    {l : List V} {vals : List Value} {v : V} {H' : Hp} (e : evF P C fn l H = some (v, H')) (I : Inv T w base σ H s.heap) (hv : VRs s.heap σ l vals) :
    codeAny (model prog w) A (.call (.ref a) ⟨vals, []⟩) (fun r s' => ∃ val, r = .ok (.ret val) ∧ PE T w base σ s v H' val s') s := by
  obtain ⟨o, ho, hdat⟩ := FA.at'
  have av := vars_of FO.vars
  unfold evF at e
  split at e
  case h_2 => (first | exact nosome e | exact nofalse e | cases e)
  rename_i ρ hρ
  have hlen : fd.params.args.length = vals.length := by
    have h1 := av.len
    have h2 := setAll_len hρ
    have h3 := hv.length
    simp at h1
    omega
  have hsc := FO.sc
  unfold okFnScope at hsc
  simp only [Bool.and_eq_true, beq_iff_eq, List.all_eq_true, Bool.or_eq_true, Bool.not_eq_true', Prod.forall] at hsc
  obtain ⟨⟨⟨hk, hgen⟩, hco⟩, hnames⟩ := hsc
  have inj : ∀ x y i, nfind x (ownNm fd.scope.names 0) = some i → nfind y (ownNm fd.scope.names 0) = some i → x = y := fun x y i hx hy => noDup_inj (own_noDup _ _) (nfind_mem hx) (nfind_mem hy)
  have kindOf : ∀ x i, nfind x (ownNm fd.scope.names 0) = some i → fd.scope.names.lookup x = some .local ∨ fd.scope.names.lookup x = some .cell := fun x i hx =>
    (own_mem (nfind_mem hx)).imp (fun q => (hnames _ _ q).1) fun q => (hnames _ _ q).1
  have memvar : ∀ {xs : List Str} {is : List Nat} {x : Str}, AllVars fd.scope (ownNm fd.scope.names 0) xs is → x ∈ xs → ∃ i, cVar fd.scope (ownNm fd.scope.names 0) x = some i := fun h => by
    induction h with
    | nil => intro hm; (first | exact nosome hm | exact nofalse hm | cases hm)
    | cons h1 h2 ih =>
      intro hm
      rcases List.mem_cons.mp hm with rfl | hm
      · exact ⟨_, h1⟩
      · exact ih hm
  refine codeAny_call_cells (by have := hb.2.1; omega) (I.stays _ _ ho) hdat (hlim.keeps I.stays) (FA.code.keeps I.stays) FO.bd
    (bind_plain FO.par FA.dfl FA.kwd hlen (vars_nodup av FO.nd)) FA.clo ?_ ?_ hco hgen hk
  · rintro ⟨x, val⟩ hx
    have hm : x ∈ fd.params.args.map (·.arg) := (List.of_mem_zip hx).1
    obtain ⟨i, hi⟩ := memvar av hm
    obtain ⟨q, q'⟩ := cVar_kind hi
    rcases q with q | q
    · exact .inl q
    · exact .inr ⟨q, cells_has _ _ _ (look_mem q)⟩
  · intro s1 IC
    obtain ⟨h1, tk1, rfl⟩ := IC.toInCall.same
    have g1 : ∀ b o, s.heap.get? b = some o → h1.get? b = some o := IC.toInCall.keep
    have st1 : Stp σ σ s { s with heap := h1, toks := tk1 } := Stp.more g1
    have I1 := I.more g1
    have hv1 := hv.stp st1
    have old : ∀ c, s.heap.objs.size ≤ c → s.heap.get? c = none := fun c hc => by
      cases z : s.heap.get? c with
      | none => rfl
      | some o => exact absurd (Heap.lt_size z) (Nat.not_lt.mpr hc)
    have obase : ∀ c, s.heap.get? c = none → base.get? c = none := fun c hc => by
      cases z : base.get? c with
      | none => rfl
      | some o => rw [I.stays _ _ z] at hc; (first | exact nosome hc | exact nofalse hc | cases hc)
    have hpar := par_ok (sc := fd.scope) (h := h1) (σ := σ) (m := fun _ => none) (cm := fun _ => none) inj av hρ hv1 (fun x i hx u hu => absurd hu (rho0_none _ _ _))
    have hLn : s.heap.get? (callEnvC fd s.heap.objs.size a).locals = none := old _ (Nat.le_refl _)
    have F1 : Frm (ownNm fd.scope.names 0) (callEnvC fd s.heap.objs.size a) base h1 σ ρ := by
      refine ⟨hk, FA.glob, FA.blt, I.notNew hLn, obase _ hLn, ⟨_, IC.toInCall.ns, fun x i hx hkx u hu => (hpar x i hx u hu).1 hkx⟩, fun x i hx hkx => ?_, fun x y c hx hy => ?_, inj⟩
      · have hkc : fd.scope.names.lookup x = some .cell := by
          rcases kindOf x i hx with q | q
          · rcases hkx with z | z
            · have z : fd.scope.names.lookup x = some .cell := z; rw [q] at z; (first | exact nosome z | exact nofalse z | cases z)
            · have z : fd.scope.names.lookup x = some .free := z; rw [q] at z; (first | exact nosome z | exact nofalse z | cases z)
          · exact q
        obtain ⟨c, hc⟩ := Option.isSome_iff_exists.mp (cells_has _ (s.heap.objs.size + 1) [] (look_mem hkc))
        have hc : (callEnvC fd s.heap.objs.size a).cells.lookup x = some c := hc
        have hlt := IC.above x c (mem_of_lookup hc)
        have hcn : s.heap.get? c = none := old _ (Nat.le_of_lt hlt)
        exact ⟨c, hc, I.notNew hcn, obase _ hcn, _, IC.cell x c hc, fun u hu => (hpar x i hx u hu).2 hkc⟩
      · exact name_of_addr IC.apart (mem_of_lookup hx) (mem_of_lookup hy)
    have hown : ∀ c, Own (ownNm fd.scope.names 0) (callEnvC fd s.heap.objs.size a) c → ∀ o, s.heap.get? c = some o → Rng σ c := fun c hc o ho => by
      exfalso
      rcases hc with rfl | ⟨x, i, _, _, hx⟩
      · rw [hLn] at ho; (first | exact nosome ho | exact nofalse ho | cases ho)
      · have := IC.above x c (mem_of_lookup hx)
        rw [old c (Nat.le_of_lt this)] at ho; (first | exact nosome ho | exact nofalse ho | cases ho)
    have run : ∀ {r : R} {ρ' : Rho}, evS P C fn.body ρ H = some (r, ρ', H') → (r = .ret v ∨ (r = .next ∧ v = .none)) →
        wpAny (model prog w) (A.deeper (callEnvC fd s.heap.objs.size a)) (execs body (callEnvC fd s.heap.objs.size a)) (fun f s' => ∃ val, (Except.ok (Flow.ret (match f with | .ret v => v | _ => .none)) : Result) = .ok (.ret val) ∧ PE T w base σ s v H' val s')
          (fun e s' => wpAny (model prog w) (A.deeper (callEnvC fd s.heap.objs.size a)) (leaving (callEnvC fd s.heap.objs.size a) e) (fun _ s'' => ∃ val, (Except.error e : Result) = .ok (.ret val) ∧ PE T w base σ s v H' val s'') (fun e' s'' => ∃ val, (Except.error e' : Result) = .ok (.ret val) ∧ PE T w base σ s v H' val s'') s') { s with heap := h1, toks := tk1 } := fun {r ρ'} er hr => by
      refine (hbody _ (BudB.deeper hb _) (callEnvC fd s.heap.objs.size a) rfl ρ H r ρ' H' σ { s with heap := h1, toks := tk1 } er I1 F1).to ?_
      rintro f s2 ⟨σ2, st2, I2, h2⟩
      have st := st1.viaO st2 hown
      rcases hr with rfl | ⟨rfl, rfl⟩
      · obtain ⟨val, rfl, hval⟩ := h2
        exact ⟨val, rfl, σ2, st, I2, hval⟩
      · obtain ⟨rfl, _⟩ := h2
        exact ⟨.none, rfl, σ2, st, I2, rfl⟩
    split at e
    · rename_i u ρ' H2 er
      first | (replace e := s3 e; obtain ⟨h1', h2', h3'⟩ := e; subst h1'; cases h2'; (first | exact nosome h3' | exact nofalse h3' | cases h3')) | (replace e := s2 e; obtain ⟨rfl, rfl⟩ := e) | (first | exact nosome e | exact nofalse e | cases e)
      exact run er (.inl rfl)
    · rename_i ρ' H2 er
      first | (replace e := s3 e; obtain ⟨h1', h2', h3'⟩ := e; subst h1'; cases h2'; (first | exact nosome h3' | exact nofalse h3' | cases h3')) | (replace e := s2 e; obtain ⟨rfl, rfl⟩ := e) | (first | exact nosome e | exact nofalse e | cases e)
      exact run er (.inr ⟨rfl, rfl⟩)
    · (first | exact nosome e | exact nofalse e | cases e)
end
end Mine
set_option linter.unusedSimpArgs false
namespace Mine
open PySem PySem.W PyProof.Rows PySem.MeetsSeq PySem.SeqAt PyProof.Rows.LCg
section
variable {prog : Program} {w : World} {T : Tb} {base : Heap} {P : Pg} {C : CallT} {A : Around} {nm nm1 : Nm} {env : Env} {s : Shared} {σ : Sg} {ρ : Rho} {H : Hp} {K : Frag} {fa : List Addr} {n : Nat} {G : Gt}
theorem se_one {op : BoolOp} {e : Expr} {a : E} {pos : Pos} (h : SE prog w T base P C A nm env e a) : SE prog w T base P C A nm env (.BoolOp op [e] pos) a := h
set_option tactic.hygienic true in
theorem sb_cmp {op : CmpOp} {l r : Expr} {a b : E} {pos : Pos} (hu : A.units + 20 < cLine) (hs : notSet r = true) (hl : SE prog w T base P C A nm env l a) (hr : SE prog w T base P C A nm env r b) : SB prog w T base P C A nm env (.Compare l [op] [r] pos) (.cmp op a b) := by
  intro ρ H x H' σ s h I Fm
  simp only [evE, e_cst, e_var, e_glob, e_nil, e_cons, e_tup, e_lst, e_lstH, e_dictH, e_and, e_or, e_not, e_neg, e_bin, e_cmp, e_cmp2, e_cmp3, e_ife, e_attr, e_sub, e_slice, e_rev, e_call, e_meth, e_new, e_sup, e_bm, e_bi, e_isi, e_comp, e_bvn] at h
  refine Classical.byContradiction fun hcon => ?_
  split at h
  case h_2 => (first | exact nosome h | exact nofalse h | cases h)
  rename_i x1 H1 h1
  split at h
  case h_2 => (first | exact nosome h | exact nofalse h | cases h)
  rename_i y H2 h2
  obtain ⟨u, q, e⟩ := Option.map_eq_some_iff.mp h
  first | (replace e := s3 e; obtain ⟨h1', h2', h3'⟩ := e; subst h1'; cases h2'; (first | exact nosome h3' | exact nofalse h3' | cases h3')) | (replace e := s2 e; obtain ⟨rfl, rfl⟩ := e) | (first | exact nosome e | exact nofalse e | cases e)
  refine hcon ?_
  refine wpAny_isTrue_Compare1 ?_ (noMarks hs)
  refine (hl ρ H x1 H1 σ s h1 I Fm).to ?_
  rintro o s1 ⟨σ1, st1, I1, v1⟩
  refine (hr ρ H1 y _ σ1 s1 h2 I1 (Fm.stp st1)).to ?_
  rintro iv s2 ⟨σ2, st2, I2, v2⟩
  refine (cmp_all hu I2 (v1.stp st2) v2 q).to ?_
  rintro _ _ ⟨rfl, t, rfl⟩
  exact wpAny_truthy_bool ⟨rfl, σ2, (st1.trans st2).trans (Stp.toks σ2 s2 t), I2⟩
end
theorem cE_not {G : Gt} {b : Nat} : ∀ {n : Nat} {sc : Scope} {nm : Nm} {heap : Bool} {e : Expr} {ir : E}, cE G b n sc nm heap e = some ir → notSet e = true ∧ notStar e = true ∧ notSlice e = true
  | 0, _, _, _, _, _, h => by (first | exact nosome h | exact nofalse h | cases h)
  | n + 1, sc, nm, heap, e, ir, h => by
    cases e <;> first | exact ⟨rfl, rfl, rfl⟩ | cases (show (none : Option E) = some ir from h)
set_option tactic.hygienic true in
theorem cList_ok {f : Expr → Option E} {prog : Program} {w : World} {T : Tb} {base : Heap} {P : Pg} {C : CallT} {A : Around} {nm : Nm} {env : Env} (hf : ∀ e ir, f e = some ir → notStar e = true ∧ SE prog w T base P C A nm env e ir) :
    ∀ {l : List Expr} {ir : E}, cList f l = some ir → SEs prog w T base P C A nm env l ir
  | [], _, h => by cases h; exact .nil
  | e :: l, ir, h => by
    unfold cList at h
    split at h
    · rename_i a c h1 h2
      first | (replace h := s3 h; obtain ⟨h1', h2', h3'⟩ := h; subst h1'; cases h2'; (first | exact nosome h3' | exact nofalse h3' | cases h3')) | (replace h := s2 h; obtain ⟨rfl, rfl⟩ := h) | (first | exact nosome h | exact nofalse h | cases h)
      obtain ⟨q1, q2⟩ := hf _ _ h1
      exact .cons q1 q2 (cList_ok hf h2)
    · (first | exact nosome h | exact nofalse h | cases h)
structure Wd (prog : Program) (w : World) (K : Frag) (T : Tb) (base : Heap) (P : Pg) (fa : List Addr) (G : Gt) : Prop where
  KC : Kc K T P fa base
  GO : GlobOk base G T fa
  names : T.names = G.names
  lim : base.NoLimit
  sup : G.sup = none
section
variable {prog : Program} {w : World} {T : Tb} {base : Heap} {P : Pg} {C : CallT} {A : Around} {K : Frag} {fa : List Addr} {m : Nat} {G : Gt} {b : Nat}
theorem name_at (W : Wd prog w K T base P fa G) {x : Str} {i : Nat} (h : findStr x G.names 0 = some i) : T.names[i]? = some x := by rw [W.names]; exact findStr_0 h
noncomputable def Good (prog : Program) (w : World) (T : Tb) (base : Heap) (P : Pg) (C : CallT) (A : Around) (sc : Scope) (nm : Nm) (e : Expr) (ir : E) : Prop := ∀ env : Env, env.scope = sc → SE prog w T base P C A nm env e ir ∧ SB prog w T base P C A nm env e ir
theorem good_plain {sc : Scope} {nm : Nm} {e : Expr} {ir : E} (hp : ∀ env whole, isTrue e env whole = (do let v ← whole; standAt e.pos; holding [v] (truthy v))) (h : ∀ env : Env, env.scope = sc → SE prog w T base P C A nm env e ir) : Good prog w T base P C A sc nm e ir :=
  fun env he => ⟨h env he, sb_plain (hp env) (h env he)⟩
set_option tactic.hygienic true in
theorem name_ok (W : Wd prog w K T base P fa G) {sc : Scope} {nm : Nm} {x : Str} {ir : E} {p : Pos} (h : cName G sc nm x = some ir) (env : Env) (he : env.scope = sc) : SE prog w T base P C A nm env (.Name x p) ir := by
  subst he
  unfold cName at h
  split at h
  · (first | exact nosome h | exact nofalse h | cases h)
  · rename_i hd
    simp only [Bool.or_eq_true, not_or, Bool.not_eq_true] at hd
    obtain ⟨hd1, hd2⟩ := hd
    split at h
    · rename_i hk
      replace h := Option.map_eq_some_iff.mp h; obtain ⟨i, hi, rfl⟩ := h
      exact se_var hd1 hd2 hk hi
    · split at h
      · rename_i hk
        split at h
        · rename_i i v h1 h2
          first | (replace h := s3 h; obtain ⟨h1', h2', h3'⟩ := h; subst h1'; cases h2'; (first | exact nosome h3' | exact nofalse h3' | cases h3')) | (replace h := s2 h; obtain ⟨rfl, rfl⟩ := h) | (first | exact nosome h | exact nofalse h | cases h)
          exact se_glob W.GO hd1 hk h2
        · (first | exact nosome h | exact nofalse h | cases h)
      · (first | exact nosome h | exact nofalse h | cases h)
theorem bool_ok {f : Expr → Option E} {sc : Scope} {nm : Nm} {op : BoolOp} {pos : Pos} (hf : ∀ e ir, f e = some ir → Good prog w T base P C A sc nm e ir) : ∀ {es : List Expr} {ir : E}, cBool op f es = some ir →
    ∀ env : Env, env.scope = sc → SE prog w T base P C A nm env (.BoolOp op es pos) ir ∧ SBs prog w T base P C A nm env op es ir
  | [], _, h => by (first | exact nosome h | exact nofalse h | cases h)
  | [e], ir, h => fun env he => by
    obtain ⟨q1, q2⟩ := hf e ir h env he
    exact ⟨se_one q1, sbs_one q2⟩
  | e :: e2 :: es, ir, h => fun env he => by
    replace h := mk2_some h; obtain ⟨a, c, h1, h2, rfl⟩ := h
    obtain ⟨q1, q2⟩ := hf e a h1 env he
    obtain ⟨r1, r2⟩ := bool_ok (pos := pos) hf h2 env he
    cases op with
    | And => exact ⟨se_and q1 r1, sbs_and q2 r2⟩
    | Or => exact ⟨se_or q1 r1, sbs_or q2 r2⟩
structure IH (prog : Program) (w : World) (T : Tb) (base : Heap) (P : Pg) (C : CallT) (A : Around) (f : Scope → Nm → Bool → Expr → Option E) : Prop where
  ok : ∀ (sc : Scope) (nm : Nm) (heap : Bool) (e : Expr) (ir : E), f sc nm heap e = some ir → Good prog w T base P C A sc nm e ir
  no : ∀ (sc : Scope) (nm : Nm) (heap : Bool) (e : Expr) (ir : E), f sc nm heap e = some ir → notSet e = true ∧ notStar e = true ∧ notSlice e = true
variable {f : Scope → Nm → Bool → Expr → Option E} {sc : Scope} {nm : Nm} {heap : Bool} {e : Expr} {ir : E}
theorem IH.se (h : IH prog w T base P C A f) (q : f sc nm heap e = some ir) {env : Env} (he : env.scope = sc) : SE prog w T base P C A nm env e ir := (h.ok _ _ _ _ _ q env he).1
theorem IH.sb (h : IH prog w T base P C A f) (q : f sc nm heap e = some ir) {env : Env} (he : env.scope = sc) : SB prog w T base P C A nm env e ir := (h.ok _ _ _ _ _ q env he).2
theorem IH.list (h : IH prog w T base P C A f) {l : List Expr} (q : cList (f sc nm false) l = some ir) {env : Env} (he : env.scope = sc) : SEs prog w T base P C A nm env l ir :=
  cList_ok (fun e ir z => ⟨(h.no _ _ _ _ _ z).2.1, h.se z he⟩) q
theorem none_good {α : Prop} (h : (none : Option E) = some ir) : α := nomatch h
theorem ite_some {c : Bool} {x : Option E} (h : (match c with | true => x | false => none) = some ir) : c = true ∧ x = some ir := by
  (first | exact nosome c | exact nofalse c | cases c)
  · (first | exact nosome h | exact nofalse h | cases h)
  · exact ⟨rfl, h⟩
theorem ite_none {c : Bool} {x : Option E} (h : (match c with | true => none | false => x) = some ir) : c = false ∧ x = some ir := by
  (first | exact nosome c | exact nofalse c | cases c)
  · exact ⟨rfl, h⟩
  · (first | exact nosome h | exact nofalse h | cases h)
theorem bin_good (X : IH prog w T base P C A f) {l r : Expr} {op : Operator} {p : Pos} (h : cBin heap op (f sc nm false l) (f sc nm false r) = some ir) : Good prog w T base P C A sc nm (.BinOp l op r p) ir := by
  unfold cBin at h
  cases heap with
  | true => exact none_good h
  | false =>
    replace h := mk2_some h; obtain ⟨x, y, hx, hy, rfl⟩ := h
    exact good_plain (fun _ _ => rfl) fun env he => se_bin (X.se hx he) (X.se hy he)
theorem un_good (X : IH prog w T base P C A f) {x : Expr} {op : UnaryOp} {p : Pos} (h : cUn op (f sc nm false x) = some ir) : Good prog w T base P C A sc nm (.UnaryOp op x p) ir := by
  cases op <;> try (first | exact nosome h | exact nofalse h | cases h)
  all_goals replace h := Option.map_eq_some_iff.mp h; obtain ⟨a, ha, rfl⟩ := h
  · exact fun env he => ⟨se_not (X.se ha he), sb_not (X.sb ha he)⟩
  · exact good_plain (fun _ _ => rfl) fun env he => se_neg (X.se ha he)
theorem cond_good (X : IH prog w T base P C A f) {l : List Expr} (h : cCond (f sc nm false) l = some ir) {env : Env} (he : env.scope = sc) : CondOk prog w T base P C A nm env l ir := by
  match l, h with
  | [], h => cases h; exact .nil
  | [c], h => exact .one (X.sb h he)
set_option tactic.hygienic true in
theorem comp_good (X : IH prog w T base P C A f) (hh : A.handled = none) (hu : A.units + 20 < cLine) {elt : Expr} {csc : Scope} {p : Pos} {gs : List Comprehension} (h : cComp b f sc nm heap elt csc gs = some ir) : Good prog w T base P C A sc nm (.ListComp elt gs csc p) ir := by
  match gs, h with
  | [⟨tg, it, ifs, ia⟩], h =>
    replace h := ite_some h; obtain ⟨hc, h⟩ := h
    simp only [Bool.and_eq_true, beq_iff_eq] at hc
    obtain ⟨⟨hc1, rfl⟩, hc2⟩ := hc
    split at h
    case h_2 => (first | exact nosome h | exact nofalse h | cases h)
    rename_i t ht
    cases heap with
    | true => exact none_good h
    | false =>
    replace h := mk3_some h; obtain ⟨i, x, c, hi, hx, hcnd, rfl⟩ := h
    have hS := scOk_of hc1 hc2
    refine good_plain (fun _ _ => rfl) fun env he => ?_
    subst he
    exact se_comp hh hu (X.no _ _ _ _ _ hi).1 (X.se hi rfl) hS ht (fun cl Cd => X.se hx rfl) fun cl Cd => cond_good X hcnd rfl
set_option tactic.hygienic true in
theorem cmp_good (X : IH prog w T base P C A f) (hu : A.units + 20 < cLine) {l : Expr} {ops : List CmpOp} {rs : List Expr} {p : Pos} (h : cCmp (f sc nm false) (f sc nm false l) ops rs = some ir) : Good prog w T base P C A sc nm (.Compare l ops rs p) ir := by
  match ops, rs, h with
  | [o], [r], h =>
    replace h := mk2_some h; obtain ⟨a, x, ha, hx, rfl⟩ := h
    exact fun env he => ⟨se_cmp hu (X.no _ _ _ _ _ hx).1 (X.se ha he) (X.se hx he), sb_cmp hu (X.no _ _ _ _ _ hx).1 (X.se ha he) (X.se hx he)⟩
  | [o1, o2], [r1, r2], h =>
    replace h := mk3_some h; obtain ⟨a, x, y, ha, hx, hy, rfl⟩ := h
    exact fun env he => ⟨se_cmp2 hu (X.no _ _ _ _ _ hy).1 (X.se ha he) (X.se hx he) (X.se hy he), sb_cmp2 hu (X.no _ _ _ _ _ hy).1 (X.se ha he) (X.se hx he) (X.se hy he)⟩
  | [o1, o2, o3], [r1, r2, r3], h =>
    dsimp only [cCmp] at h
    split at h
    case h_2 => (first | exact nosome h | exact nofalse h | cases h)
    rename_i z hz
    replace h := mk3_some h; obtain ⟨a, x, y, ha, hx, hy, rfl⟩ := h
    exact fun env he => ⟨se_cmp3 hu (X.no _ _ _ _ _ hz).1 (X.se ha he) (X.se hx he) (X.se hy he) (X.se hz he), sb_cmp3 hu (X.no _ _ _ _ _ hz).1 (X.se ha he) (X.se hx he) (X.se hy he) (X.se hz he)⟩
set_option tactic.hygienic true in
theorem meth_good (W : Wd prog w K T base P fa G) (hC : CO prog w T base fa m C) (hb : BudB m A) (X : IH prog w T base P C A f) {o : Expr} {name : Str} {args : List Expr} {ap cp : Pos} (hc1 : (ap.endLine == cp.line) = true) (hc2 : args.length < 29) (hc3 : isCall0 o = false)
    (h : cMeth G (f sc nm) o name args = some ir) : Good prog w T base P C A sc nm (.Call (.Attribute o name ap) args [] cp) ir := by
  have hu : A.units + 20 < cLine := hb.u
  refine good_plain (fun _ _ => rfl) fun env he => ?_
  unfold cMeth at h
  split at h
  · rename_i op hop
    replace h := mk2_some h; obtain ⟨x, l, hx, hl, rfl⟩ := h
    exact se_bm hu hc3 hc1 hc2 hop (X.se hx he) (X.list hl he).sl
  · split at h
    · (first | exact nosome h | exact nofalse h | cases h)
    · split at h
      case h_2 => (first | exact nosome h | exact nofalse h | cases h)
      rename_i i hi
      replace h := mk2_some h; obtain ⟨x, l, hx, hl, rfl⟩ := h
      exact se_meth W.KC hC hb hc3 hc1 hc2 (name_at W hi) (X.se hx he) (X.list hl he).sl
set_option tactic.hygienic true in
theorem isi_good (W : Wd prog w K T base P fa G) (X : IH prog w T base P C A f) {x t : Expr} {p q : Pos} {nme : Str} (hk : isGlob sc nme = true) (hd : strEq nme s_debug = false) (his : strEq nme s_isinstance = true) (h : cIsi sc (f sc nm false) x t = some ir) : Good prog w T base P C A sc nm (.Call (.Name nme q) [x, t] [] p) ir := by
  unfold cIsi at h
  split at h
  case h_2 => (first | exact nosome h | exact nofalse h | cases h)
  split at h
  case h_2 => (first | exact nosome h | exact nofalse h | cases h)
  rename_i hc2 ht
  simp only [Bool.and_eq_true, Bool.not_eq_true'] at hc2
  replace h := Option.map_eq_some_iff.mp h; obtain ⟨y, hx, rfl⟩ := h
  refine good_plain (fun _ _ => rfl) fun env he => ?_
  subst he
  exact se_isi W.GO hd hk his hc2.2 hc2.1 ht (X.no _ _ _ _ _ hx).2.1 (X.se hx rfl)
set_option tactic.hygienic true in
theorem callN_good (W : Wd prog w K T base P fa G) (hC : CO prog w T base fa m C) (hb : BudB m A) (X : IH prog w T base P C A f) {nme : Str} {args : List Expr} {p q : Pos} (h : cCallN G sc (f sc nm false) nme args = some ir) : Good prog w T base P C A sc nm (.Call (.Name nme q) args [] p) ir := by
  have hh : A.handled = none := hb.2.2
  unfold cCallN at h
  split at h
  case h_2 => (first | exact nosome h | exact nofalse h | cases h)
  rename_i hc
  simp only [Bool.and_eq_true, Bool.not_eq_true'] at hc
  obtain ⟨hk, hd⟩ := hc
  split at h
  · rename_i i hi
    replace h := Option.map_eq_some_iff.mp h; obtain ⟨a, ha, rfl⟩ := h
    refine good_plain (fun _ _ => rfl) fun env he => ?_
    subst he
    exact se_call W.KC W.GO hC hb hd hk hi (X.list ha rfl).sl
  · split at h
    · rename_i c hcl
      replace h := Option.map_eq_some_iff.mp h; obtain ⟨a, ha, rfl⟩ := h
      refine good_plain (fun _ _ => rfl) fun env he => ?_
      subst he
      exact se_new W.KC W.GO hC hb hd hk hcl (X.list ha rfl).sl
    · split at h
      · rename_i op hop
        replace h := Option.map_eq_some_iff.mp h; obtain ⟨a, ha, rfl⟩ := h
        refine good_plain (fun _ _ => rfl) fun env he => ?_
        subst he
        exact se_bi W.GO hh hd hk hop (X.list ha rfl).sl
      · split at h
        case h_2 => (first | exact nosome h | exact nofalse h | cases h)
        rename_i his
        match args, h with
        | [x, t], h => exact isi_good W X hk hd his h
theorem bound_good (X : IH prog w T base P C A f) {e : Option Expr} (h : cBound (f sc nm false) e = some ir) {env : Env} (he : env.scope = sc) : SO prog w T base P C A nm env e ir := by
  cases e with
  | none => cases h; rfl
  | some e => exact X.se h he
theorem minus1 {e : Expr} (h : isMinus1 e = true) : ∃ p q k, e = .UnaryOp .USub (.Constant (.int 1) k p) q := by
  unfold isMinus1 at h
  split at h
  case h_2 => (first | exact nosome h | exact nofalse h | cases h)
  split at h
  case h_2 => (first | exact nosome h | exact nofalse h | cases h)
  unfold isOne at h
  split at h
  case h_2 => (first | exact nosome h | exact nofalse h | cases h)
  split at h
  case h_2 => (first | exact nosome h | exact nofalse h | cases h)
  exact ⟨_, _, _, by rw [intEq_iff.mp h]⟩
set_option tactic.hygienic true in
theorem sub_good (X : IH prog w T base P C A f) (hu : A.units + 20 < cLine) {v i : Expr} {p : Pos} (h : cSub (f sc nm false) (f sc nm false v) i = some ir) : Good prog w T base P C A sc nm (.Subscript v i p) ir := by
  refine good_plain (fun _ _ => rfl) fun env he => ?_
  have other : ∀ {i : Expr}, mk2 .sub (f sc nm false v) (f sc nm false i) = some ir → SE prog w T base P C A nm env (.Subscript v i p) ir := fun h => by
    replace h := mk2_some h; obtain ⟨x, y, hx, hy, rfl⟩ := h
    exact se_sub hu (X.no _ _ _ _ _ hy).2.2 (X.se hx he) (X.se hy he)
  cases i <;> try exact other h
  rename_i lo hi step q
  have h : cSlice (f sc nm false) (f sc nm false v) lo hi step = some ir := h
  cases step with
  | none =>
    replace h := mk3_some h; obtain ⟨x, y, z, hx, hy, hz, rfl⟩ := h
    exact se_slice (X.se hx he) (bound_good X hy he) (bound_good X hz he)
  | some st =>
    unfold cSlice at h
    dsimp only at h
    split at h
    case h_2 => (first | exact nosome h | exact nofalse h | cases h)
    rename_i hc
    simp only [Bool.and_eq_true, Option.isNone_iff_eq_none] at hc
    obtain ⟨⟨h1, rfl⟩, rfl⟩ := hc
    obtain ⟨p1, q1, k1, rfl⟩ := minus1 h1
    replace h := Option.map_eq_some_iff.mp h; obtain ⟨x, hx, rfl⟩ := h
    exact se_rev (X.se hx he)
theorem strOf_some {e : Expr} {a : Str} (h : strOf e = some a) : ∃ k p, e = .Constant (.str a) k p := by
  unfold strOf at h
  split at h
  · cases h; exact ⟨_, _, rfl⟩
  · (first | exact nosome h | exact nofalse h | cases h)
theorem fmtOf_some {e v : Expr} (h : fmtOf e = some v) : ∃ p, e = .FormattedValue v (-1) none p := by
  unfold fmtOf at h
  split at h
  · cases h; exact ⟨_, rfl⟩
  · (first | exact nosome h | exact nofalse h | cases h)
set_option tactic.hygienic true in
theorem join_good (X : IH prog w T base P C A f) {l : List Expr} {p : Pos} (h : cJoin (f sc nm false) l = some ir) : Good prog w T base P C A sc nm (.JoinedStr l p) ir := by
  match l, h with
  | [a, v, c], h =>
    unfold cJoin at h
    dsimp only at h
    split at h
    case h_2 => (first | exact nosome h | exact nofalse h | cases h)
    rename_i a' v' c' h1 h2 h3
    split at h
    case h_2 => (first | exact nosome h | exact nofalse h | cases h)
    rename_i hc
    simp only [Bool.and_eq_true, strEq_iff] at hc
    obtain ⟨e1, e2⟩ := hc
    subst e1 e2
    obtain ⟨k1, p1, rfl⟩ := strOf_some h1
    obtain ⟨k2, p2, rfl⟩ := strOf_some h3
    obtain ⟨p3, rfl⟩ := fmtOf_some h2
    replace h := Option.map_eq_some_iff.mp h; obtain ⟨x, hx, rfl⟩ := h
    exact good_plain (fun _ _ => rfl) fun env he => se_bvn (X.se hx he)
set_option tactic.hygienic true in
theorem cE1_ok (W : Wd prog w K T base P fa G) (hC : CO prog w T base fa m C) (hb : BudB m A) (X : IH prog w T base P C A f) (h : cE1 G b f sc nm heap e = some ir) : Good prog w T base P C A sc nm e ir := by
  have hu : A.units + 20 < cLine := hb.u
  have hh : A.handled = none := hb.2.2
  first | (replace e := s3 e; obtain ⟨h1', h2', h3'⟩ := e; subst h1'; cases h2'; (first | exact nosome h3' | exact nofalse h3' | cases h3')) | (replace e := s2 e; obtain ⟨rfl, rfl⟩ := e) | (first | exact nosome e | exact nofalse e | cases e)
  case Constant c k p =>
    obtain ⟨v, hv, rfl⟩ := Option.map_eq_some_iff.mp (show (cConst c).map .cst = some ir from h)
    exact good_plain (fun _ _ => rfl) fun env he => se_const hv
  case Name => exact good_plain (fun _ _ => rfl) fun env he => name_ok W h env he
  case BoolOp =>
    intro env he
    obtain ⟨q1, q2⟩ := bool_ok (fun e ir h => X.ok _ _ _ _ _ h) h env he
    exact ⟨q1, sb_row q2⟩
  case BinOp => exact bin_good X h
  case UnaryOp => exact un_good X h
  case IfExp =>
    replace h := mk3_some h; obtain ⟨a, c, d, h1, h2, h3, rfl⟩ := h
    exact fun env he => ⟨se_ife (X.sb h1 he) (X.se h2 he) (X.se h3 he), sb_ife (X.sb h1 he) (X.sb h2 he) (X.sb h3 he)⟩
  case Dict =>
    replace h := ite_some h; obtain ⟨hc, h⟩ := h
    simp only [Bool.and_eq_true, beq_iff_eq, Nat.ble_eq] at hc
    replace h := mk2_some h; obtain ⟨k, v, h1, h2, rfl⟩ := h
    exact good_plain (fun _ _ => rfl) fun env he => se_dict hu h1 (X.list h2 he) hc.1 hc.2
  case List =>
    replace h := ite_some h; obtain ⟨hc, h⟩ := h
    rw [Nat.ble_eq] at hc
    replace h := Option.map_eq_some_iff.mp h; obtain ⟨a, ha, rfl⟩ := h
    cases heap with
    | true => exact good_plain (fun _ _ => rfl) fun env he => se_lstH (X.list ha he).sl hc
    | false => exact good_plain (fun _ _ => rfl) fun env he => se_lst (X.list ha he).sl hc
  case Tuple =>
    replace h := ite_some h; obtain ⟨hc, h⟩ := h
    rw [Nat.ble_eq] at hc
    replace h := Option.map_eq_some_iff.mp h; obtain ⟨a, ha, rfl⟩ := h
    exact good_plain (fun _ _ => rfl) fun env he => se_tup (X.list ha he).sl hc
  case ListComp => exact comp_good X hh hu h
  case Compare => exact cmp_good X hu h
  case Call fn args ks cp =>
    cases ks with
    | cons => exact none_good h
    | nil =>
      have h : cCall G sc (f sc nm) args cp fn = some ir := h
      cases fn <;> try exact none_good h
      case Attribute o name ap =>
        replace h := ite_some h; obtain ⟨hc, h⟩ := h
        simp only [Bool.and_eq_true, Bool.not_eq_true', Nat.blt_eq] at hc
        exact meth_good W hC hb X hc.1.1 hc.1.2 hc.2 h
      case Name => exact callN_good W hC hb X h
  case Attribute o name p =>
    replace h := ite_none h; obtain ⟨hc, h⟩ := h
    split at h
    case h_2 => (first | exact nosome h | exact nofalse h | cases h)
    rename_i i hi
    replace h := Option.map_eq_some_iff.mp h; obtain ⟨x, hx, rfl⟩ := h
    exact good_plain (fun _ _ => rfl) fun env he => se_attr W.KC hc (name_at W hi) (X.se hx he)
  case Subscript => exact sub_good X hu h
  case JoinedStr => exact join_good X h
  all_goals exact none_good h
theorem cE_ok (W : Wd prog w K T base P fa G) (hC : CO prog w T base fa m C) (hb : BudB m A) : ∀ (n : Nat) (sc : Scope) (nm : Nm) (heap : Bool) (e : Expr) (ir : E), cE G b n sc nm heap e = some ir → Good prog w T base P C A sc nm e ir
  | 0, _, _, _, _, _, h => by (first | exact nosome h | exact nofalse h | cases h)
  | n + 1, _, _, _, _, _, h => cE1_ok W hC hb ⟨cE_ok W hC hb n, fun _ _ _ _ _ h => cE_not h⟩ h
end
end Mine
set_option linter.unusedSimpArgs false
namespace Mine
open PySem PySem.W PyProof.Rows PySem.MeetsSeq PySem.SeqAt PyProof.Rows.LCg
section
variable {prog : Program} {w : World} {T : Tb} {base : Heap} {P : Pg} {C : CallT} {A : Around} {nm nm1 : Nm} {env : Env} {s : Shared} {σ : Sg} {ρ : Rho} {H : Hp} {K : Frag} {fa : List Addr} {n : Nat} {G : Gt}
end
section
variable {prog : Program} {w : World} {T : Tb} {base : Heap} {P : Pg} {C : CallT} {A : Around} {K : Frag} {fa : List Addr} {m : Nat} {G : Gt} {b : Nat}
noncomputable def GoodS (prog : Program) (w : World) (T : Tb) (base : Heap) (P : Pg) (C : CallT) (A : Around) (sc : Scope) (nm : Nm) (st : Stmt) (ir : S) : Prop := ∀ env : Env, env.scope = sc → SS prog w T base P C A nm env st ir
set_option tactic.hygienic true in
theorem asgC_good {f : Scope → Nm → Bool → Expr → Option E} (X : IH prog w T base P C A f) (hh : A.handled = none) (hu : A.units + 20 < cLine) {sc : Scope} {nm : Nm} {heap : Bool} {x : Str} {i : Nat} {px pos ps : Pos} {elt : Expr} {csc : Scope} {gs : List Comprehension} {ir : E}
    (hx : cVar sc nm x = some i) (h : cComp b f sc nm heap elt csc gs = some ir) : GoodS prog w T base P C A sc nm (.Assign [.Name x px] (.ListComp elt gs csc ps) pos) (.asg i ir) := by
  match gs, h with
  | [⟨tg, it, ifs, ia⟩], h =>
    replace h := ite_some h; obtain ⟨hc, h⟩ := h
    simp only [Bool.and_eq_true, beq_iff_eq] at hc
    obtain ⟨⟨hc1, rfl⟩, hc2⟩ := hc
    split at h
    case h_2 => (first | exact nosome h | exact nofalse h | cases h)
    rename_i t ht
    cases heap with
    | true => exact none_good h
    | false =>
    replace h := mk3_some h; obtain ⟨i', x', c, hi, hx', hcnd, rfl⟩ := h
    have hS := scOk_of hc1 hc2
    intro env he
    subst he
    exact ss_asgC hh hu hx (X.no _ _ _ _ _ hi).1 (X.se hi rfl) hS ht (fun cl Cd => X.se hx' rfl) fun cl Cd => cond_good X hcnd rfl
theorem asg_ok (W : Wd prog w K T base P fa G) (hC : CO prog w T base fa m C) (hb : BudB m A) {n : Nat} {sc : Scope} {nm : Nm} {heap : Bool} {x : Str} {i : Nat} {px pos : Pos} {v : Expr} {ir : E} (hx : cVar sc nm x = some i) (h : cE G b n sc nm heap v = some ir) : GoodS prog w T base P C A sc nm (.Assign [.Name x px] v pos) (.asg i ir) := by
  have hu : A.units + 20 < cLine := hb.u
  have hh : A.handled = none := hb.2.2
  have all : notComp v = true → GoodS prog w T base P C A sc nm (.Assign [.Name x px] v pos) (.asg i ir) := fun hn env he => by
    subst he
    exact ss_asg' (swaps_not hn _ _) hx (cE_ok W hC hb n _ nm heap v ir h env rfl).1
  cases n with
  | zero => (first | exact nosome h | exact nofalse h | cases h)
  | succ n =>
    (first | exact nosome v | exact nofalse v | cases v)
    case ListComp => exact asgC_good ⟨cE_ok W hC hb n, fun _ _ _ _ _ h => cE_not h⟩ hh hu hx h
    case SetComp => exact none_good h
    case DictComp => exact none_good h
    all_goals exact all rfl
end
end Mine
set_option linter.unusedSimpArgs false
namespace Mine
open PySem PySem.W PyProof.Rows PySem.MeetsSeq PySem.SeqAt PyProof.Rows.LCg
section
variable {prog : Program} {w : World} {T : Tb} {base : Heap} {P : Pg} {C : CallT} {A : Around} {K : Frag} {fa : List Addr} {m : Nat} {G : Gt} {b : Nat}
set_option tactic.hygienic true in
theorem cZip_ok {f : Bool → Expr → Option E} {hl : List Str} {nm : Nm} {env : Env} (hf : ∀ hp e ir, f hp e = some ir → notStar e = true ∧ SE prog w T base P C A nm env e ir) :
    ∀ {xs : List Str} {es : List Expr} {ir : E}, cZip f hl xs es = some ir → SEs prog w T base P C A nm env es ir
  | [], [], _, h => by cases h; exact .nil
  | [], _ :: _, _, h => by (first | exact nosome h | exact nofalse h | cases h)
  | _ :: _, [], _, h => by (first | exact nosome h | exact nofalse h | cases h)
  | x :: xs, e :: es, ir, h => by
    unfold cZip at h
    split at h
    · rename_i a c h1 h2
      first | (replace h := s3 h; obtain ⟨h1', h2', h3'⟩ := h; subst h1'; cases h2'; (first | exact nosome h3' | exact nofalse h3' | cases h3')) | (replace h := s2 h; obtain ⟨rfl, rfl⟩ := h) | (first | exact nosome h | exact nofalse h | cases h)
      obtain ⟨q1, q2⟩ := hf _ _ _ h1
      exact .cons q1 q2 (cZip_ok hf h2)
    · (first | exact nosome h | exact nofalse h | cases h)
set_option tactic.hygienic true in
theorem cTup_ok (W : Wd prog w K T base P fa G) (hC : CO prog w T base fa m C) (hb : BudB m A) {n : Nat} {sc : Scope} {nm : Nm} {hl xs : List Str} {v : Expr} {ir : E} (h : cTupVal (cE G b n sc nm) hl xs v = some ir) (env : Env) (he : env.scope = sc) : SE prog w T base P C A nm env v ir := by
  have f : ∀ hp e ir, cE G b n sc nm hp e = some ir → notStar e = true ∧ SE prog w T base P C A nm env e ir := fun hp e ir h => ⟨(cE_not h).2.1, (cE_ok W hC hb n sc nm hp e ir h env he).1⟩
  unfold cTupVal at h
  split at h
  · split at h
    case isFalse => (first | exact nosome h | exact nofalse h | cases h)
    rename_i hc
    rw [Nat.ble_eq] at hc
    replace h := Option.map_eq_some_iff.mp h; obtain ⟨a, ha, rfl⟩ := h
    exact se_tup (cZip_ok f ha).sl hc
  · split at h
    · (first | exact nosome h | exact nofalse h | cases h)
    · exact (f _ _ _ h).2
structure IA (prog : Program) (w : World) (T : Tb) (base : Heap) (P : Pg) (C : CallT) (A : Around) (sc : Scope) (nm : Nm) (f : Bool → Expr → Option E) : Prop where
  se : ∀ {heap : Bool} {e : Expr} {ir : E}, f heap e = some ir → ∀ {env : Env}, env.scope = sc → SE prog w T base P C A nm env e ir
  sb : ∀ {heap : Bool} {e : Expr} {ir : E}, f heap e = some ir → ∀ {env : Env}, env.scope = sc → SB prog w T base P C A nm env e ir
theorem iteS_some {c : Bool} {x : Option S} {ir : S} (h : (match c with | true => x | false => none) = some ir) : c = true ∧ x = some ir := by
  (first | exact nosome c | exact nofalse c | cases c)
  · (first | exact nosome h | exact nofalse h | cases h)
  · exact ⟨rfl, h⟩
theorem nameOf_some {e : Expr} {x : Str} (h : nameOf? e = some x) : ∃ p, e = .Name x p := by
  cases e <;> (first | exact nosome h | exact nofalse h | cases h)
  exact ⟨_, rfl⟩
theorem noneS {α : Prop} {ir : S} (h : (none : Option S) = some ir) : α := nomatch h
section
variable (W : Wd prog w K T base P fa G) (hC : CO prog w T base fa m C) (hb : BudB m A) {n : Nat} {sc : Scope} {nm : Nm} {hl : List Str}
include W hC hb
theorem ia_cE : IA prog w T base P C A sc nm (cE G b n sc nm) := ⟨fun {_ _ _} h {env} he => (cE_ok W hC hb n _ _ _ _ _ h env he).1, fun {_ _ _} h {env} he => (cE_ok W hC hb n _ _ _ _ _ h env he).2⟩
set_option tactic.hygienic true in
theorem cAssign_ok {t v : Expr} {ir : S} {pos : Pos} (h : cAssign G sc nm hl (cE G b n sc nm) v t = some ir) : GoodS prog w T base P C A sc nm (.Assign [t] v pos) ir := by
  have hu : A.units + 20 < cLine := hb.u
  have hh : A.handled = none := hb.2.2
  have X : IA prog w T base P C A sc nm (cE G b n sc nm) := ia_cE W hC hb
  cases t <;> try exact noneS h
  case Name =>
    replace h := o2_some h; obtain ⟨i, e, hx, he, rfl⟩ := h
    exact asg_ok W hC hb hx he
  case Attribute o name p =>
    have h : (match findStr name G.names 0 with
      | some i => o2 (fun o e => S.setA o i e) (cE G b n sc nm false o) (cE G b n sc nm (isList v) v)
      | none => none) = some ir := h
    split at h
    case h_2 => (first | exact nosome h | exact nofalse h | cases h)
    rename_i i hi
    replace h := o2_some h; obtain ⟨o', e, h1, h2, rfl⟩ := h
    exact fun env he => ss_setA W.KC (name_at W hi) (X.se h1 he) (X.se h2 he)
  case Subscript =>
    replace h := o2_some h; obtain ⟨p, e, hp, he, rfl⟩ := h
    obtain ⟨o, k, h1, h2, rfl⟩ := o2_some hp
    exact fun env hs => ss_setI hu (X.se h1 hs) (X.se h2 hs) (X.se he hs)
  case Tuple ts tk tp =>
    have h : (match optList nameOf? ts with
      | some xs => cNames sc nm hl (cE G b n sc nm) v xs
      | none => none) = some ir := h
    split at h
    · rename_i xs hxs
      unfold cNames at h
      split at h
      case h_2 => (first | exact nosome h | exact nofalse h | cases h)
      rename_i is his
      replace h := iteS_some h; obtain ⟨hc, h⟩ := h
      rw [Bool.and_eq_true, Bool.not_eq_true'] at hc
      replace h := Option.map_eq_some_iff.mp h; obtain ⟨a, ha, rfl⟩ := h
      intro env he
      subst he
      exact ss_asgT hh hxs his hc.1 hc.2 (cTup_ok W hC hb ha env rfl)
    · (first | exact nosome h | exact nofalse h | cases h)
end
noncomputable def GoodSs (prog : Program) (w : World) (T : Tb) (base : Heap) (P : Pg) (C : CallT) (A : Around) (sc : Scope) (nm : Nm) (l : List Stmt) (ir : S) : Prop := ∀ env : Env, env.scope = sc → SSs prog w T base P C A nm env l ir
theorem cSs_ok {f : Stmt → Option S} {sc : Scope} {nm : Nm} (hf : ∀ st ir, f st = some ir → GoodS prog w T base P C A sc nm st ir) : ∀ {l : List Stmt} {ir : S}, cSs f l = some ir → GoodSs prog w T base P C A sc nm l ir
  | [], _, h => by cases h; exact fun env he => sss_nil
  | [st], ir, h => fun env he => sss_one (hf st ir h env he)
  | st :: s2 :: l, ir, h => by
    replace h := o2_some h; obtain ⟨a, c, h1, h2, rfl⟩ := h
    exact fun env he => sss_cons (hf _ _ h1 env he) (cSs_ok hf h2 env he)
set_option tactic.hygienic true in
theorem ret_good {f : Bool → Expr → Option E} {sc : Scope} {nm : Nm} {hl : List Str} (X : IA prog w T base P C A sc nm f) {v : Option Expr} {ir : S} {p : Pos} (h : cRet sc nm hl f v = some ir) : GoodS prog w T base P C A sc nm (.Return v p) ir := by
  cases v with
  | none => cases h; exact fun env he => ss_ret0
  | some v =>
    have plain : (f false v).map .ret = some ir → GoodS prog w T base P C A sc nm (.Return (some v) p) ir := fun h => by
      replace h := Option.map_eq_some_iff.mp h; obtain ⟨a, ha, rfl⟩ := h
      exact fun env he => ss_ret (X.se ha he)
    unfold cRet at h
    dsimp only at h
    split at h
    · rename_i x hx
      split at h
      · split at h
        · (first | exact nosome h | exact nofalse h | cases h)
        · rename_i hc
          simp only [Bool.or_eq_false_iff] at hc
          replace h := Option.map_eq_some_iff.mp h; obtain ⟨i, hi, rfl⟩ := h
          obtain ⟨q, rfl⟩ := nameOf_some hx
          intro env he
          subst he
          exact ss_retF hc.1 hc.2 hi
      · exact plain h
    · exact plain h
set_option tactic.hygienic true in
theorem cS1_ok (W : Wd prog w K T base P fa G) (hC : CO prog w T base fa m C) (hb : BudB m A) {n : Nat} {sc : Scope} {nm : Nm} {hl : List Str} {g : Stmt → Option S} (IS : ∀ {l : List Stmt} {ir : S}, cSs g l = some ir → GoodSs prog w T base P C A sc nm l ir)
    {st : Stmt} {ir : S} (h : cS1 G sc nm hl (cE G b n sc nm) g st = some ir) : GoodS prog w T base P C A sc nm st ir := by
  have hh : A.handled = none := hb.2.2
  have X : IA prog w T base P C A sc nm (cE G b n sc nm) := ia_cE W hC hb
  cases st <;> try exact noneS h
  case Pass => cases h; exact fun env he => ss_pass
  case Continue => cases h; exact fun env he => ss_cont
  case Raise => cases h; exact fun env he => ss_bad
  case Return => exact ret_good X h
  case Expr v p =>
    replace h := iteS_some h; obtain ⟨hc, h⟩ := h
    replace h := Option.map_eq_some_iff.mp h; obtain ⟨a, ha, rfl⟩ := h
    cases v <;> try (first | exact nosome hc | exact nofalse hc | cases hc)
    exact fun env he => ss_ex rfl (X.se ha he)
  case Assign ts v p =>
    match ts, h with
    | [t], h => exact cAssign_ok W hC hb h
  case If =>
    replace h := o2_some h; obtain ⟨t, p, h1, h2, rfl⟩ := h
    obtain ⟨a, c, h3, h4, rfl⟩ := o2_some h2
    exact fun env he => ss_ite (X.sb h1 he) (IS h3 env he) (IS h4 env he)
  case While t a e p =>
    cases e with
    | cons => exact noneS h
    | nil =>
      replace h := o2_some h; obtain ⟨t, a, h1, h2, rfl⟩ := h
      exact fun env he => ss_while (X.sb h1 he) (IS h2 env he)
  case For tg it a e p =>
    cases e with
    | cons => exact noneS h
    | nil =>
      replace h := o2_some h; obtain ⟨t, q, h1, h2, rfl⟩ := h
      obtain ⟨i, c, h3, h4, rfl⟩ := o2_some h2
      cases tg <;> try (first | exact nosome h1 | exact nofalse h1 | cases h1)
      intro env he
      subst he
      exact ss_for hh (cE_not h3).1 h1 (X.se h3 rfl) (IS h4 env rfl)
theorem cS_ok (W : Wd prog w K T base P fa G) (hC : CO prog w T base fa m C) (hb : BudB m A) {sc : Scope} {nm : Nm} {hl : List Str} : ∀ (n : Nat) (st : Stmt) (ir : S), cS G b sc nm hl n st = some ir → GoodS prog w T base P C A sc nm st ir
  | 0, _, _, h => by (first | exact nosome h | exact nofalse h | cases h)
  | n + 1, _, _, h => cS1_ok W hC hb (fun h => cSs_ok (fun st ir h => cS_ok W hC hb n st ir h) h) h
structure FnsAt (base : Heap) (G : Gt) (fa : List Addr) (fns : List Fn) (hls : List (List Str)) (f : Nat) : Prop where
  ok : ∀ a fn, fa[f]? = some a → fns[f]? = some fn → ∃ fd hl body, FnAt base G a fd ∧ FnOk G hl fd fn body
theorem co_zero : CO prog w T base fa 0 (fun _ _ _ => none) := fun A hb f a l H v H' σ s vals ha e => nomatch e
set_option tactic.hygienic true in
theorem co_step (W : Wd prog w K T base P fa G) {fns : List Fn} {n : Nat} (hC : CO prog w T base fa n (runF P fns n))
    (ok : ∀ (f : Nat) (a : Addr) (fn : Fn), fa[f]? = some a → fns[f]? = some fn → (∃ fd hl body, FnAt base G a fd ∧ FnOk G hl fd fn body) ∨
      (∀ A, Bud (n + 1) A → ∀ l H v H' σ s vals, evF P (runF P fns n) fn l H = some (v, H') → Inv T w base σ H s.heap → VRs s.heap σ l vals →
        codeAny (model prog w) A (.call (.ref a) ⟨vals, []⟩) (fun r s' => ∃ val, r = .ok (.ret val) ∧ PE T w base σ s v H' val s') s)) :
    CO prog w T base fa (n + 1) (runF P fns (n + 1)) := by
  intro A hb f a l H v H' σ s vals ha e I hv
  have e : (match fns[f]? with | some fn => evF P (runF P fns n) fn l H | none => none) = some (v, H') := e
  split at e
  case h_2 => (first | exact nosome e | exact nofalse e | cases e)
  rename_i fn hfn
  rcases ok f a fn ha hfn with ⟨fd, hl, body, FA, FO⟩ | h
  · exact fn_code W.lim FA FO hb (fun A' hb' env he => cSs_ok (fun st ir h => cS_ok W hC hb' 100 st ir h) FO.comp env he) e I hv
  · exact h A hb l H v H' σ s vals e I hv
end
end Mine
set_option linter.unusedSimpArgs false
namespace Mine
open PySem PySem.W PyProof.Rows PySem.MeetsSeq PySem.SeqAt PyProof.Rows.LCg
section
variable {prog : Program} {w : World} {T : Tb} {base : Heap} {P : Pg} {C : CallT} {A : Around} {nm nm1 : Nm} {env : Env} {s : Shared} {σ : Sg} {ρ : Rho} {H : Hp} {K : Frag} {fa : List Addr} {n : Nat} {G : Gt}
  {p : Program} {loose : List Str} {mean : ExcName → Option Value} {mg mb : Str → Option Value}
theorem callM {q f : Addr} {self : Value} {pos : Pos} {env : Env} {Q : Value → Shared → Prop} (X : MethP K q f self s.heap) (hf : fnIn K f = true) (h : Ok prog w A (call (.ref q) []) s Q) : Ok prog w A (callWith pos (.ref q) [] (backTo pos (starEach [] env)) []) s Q := by
  refine callWith_of (keywords := []) (P := MethP K q f self) rfl (fun h X => keeps_M hf h X) ?_
  unfold evalArgs
  show wpAny _ _ (spliced [] >>= _) _ _ s
  refine wpAny_bind (wpAny_pure ?_)
  refine wpAny_bind (wpAny_pure ?_)
  refine wpAny_holding ?_
  exact wpAny_bind (wpAny_pure (wpAny_bind (wpAny_pure (wpAny_pure ⟨X, h⟩))))
set_option tactic.hygienic true in
theorem init_code (W : Wd prog w K T base P fa G) (hC : CO prog w T base fa n C) (Tp : Top p loose mean mg mb base)
    {a cc cda D fB : Addr} {fB' : Nat} {name qual : Str} {params : Arguments} {scope : Scope} {doc pm ct oc ccl cl : Value} {an od cdd cld : Option Addr} {osl ccs csl : Array (Option Value)} {vs : Array Value} {file : Str} {tf : Tok} {cdD : ClassData}
    {x0 : Str} {ap : Pos} {p0 p1 p2 p3 p4 : Pos} {an0 : Option Expr} {st2 : Stmt} {rest : S} {nv : Nat} {hl : List Str} {pl : Env → Sem Bool}
    (hpar : params = { posonlyargs := [], args := [⟨x0, an0, ap⟩], vararg := none, kwonlyargs := [], kw_defaults := [], kwarg := none, defaults := [] })
    (hf : K.lookup a = some ⟨oc, od, .func (ksFn name qual params [.Expr (.Call (.Attribute (.Call (.Name "super" p0) [] [] p1) "__init__" p2) [] [] p3) p4, st2] scope .none .none doc pm an (.ref cda) ct cc), osl⟩)
    (hcode : K.lookup cda = some ⟨ccl, cdd, .fields vs, ccs⟩) (hcd : codeIn K (.ref cda) qual = true) (hvs : vs[2]? = some (.str file tf)) (hfile : ((prog.main.file : Str) == file) = true)
    (hcell : K.lookup cc = some ⟨cl, cld, .cell (some (.ref D)), csl⟩) (hD : clsIn K D = some cdD) (hTD : T.cls[0]? = some D) (hsub : mroIn K D (.ref D) = some true) (hsuper : nsIn K mainGlobals "super" = some none)
    (hsc : okFnScope scope = true) (hks : scope.names.lookup ("super" : Str) = some .globalImplicit) (hkc : scope.names.lookup ("__class__" : Str) = some .free) (hka : scope.names.lookup x0 = some .local) (hnc : ∀ x ∈ scope.names, x.2 ≠ .cell)
    (hn0 : nfind x0 (ownNm scope.names 0) = some 0) (hn1 : ∀ x i, nfind x (ownNm scope.names 0) = some i → x = x0)
    (htop : (prog.main.scope.names.lookup ("super" : Str)).isSome = false) (hboot : bootBuiltins "super" = some (.type "super"))
    (hthird : nsIn K cStatics "thirdparty.any" = some none) (hm : ks_superIn K D D "__init__" = some (some (.ref fB))) (ht : typeIn K (.ref fB) = some (.type "function")) (hfB : fnIn K fB = true) (hfa : fa[fB']? = some fB)
    (heval : ∀ env, eval (.Call (.Attribute (.Call (.Name "super" p0) [] [] p1) "__init__" p2) [] [] p3) env = (do
      let ov ← attributeBase (.Call (.Name "super" p0) [] [] p1) "__init__" env (eval (.Call (.Name "super" p0) [] [] p1) env)
      standAt p2.atName
      let (f, first) ← holding [ov] (getMethod ov "__init__" (pl env))
      callWith p3 f first (backTo p3 (starEach [] env)) []))
    (hrest : cS G (ownNm scope.names 0).length scope (ownNm scope.names 0) hl 100 st2 = some rest)
    (hb : Bud (n + 1) A) {l : List V} {vals : List Value} {v : V} {H' : Hp} (e : evF P C ⟨[0], nv + 1, .seq (.ex (.sup fB')) rest⟩ l H = some (v, H')) (I : Inv T w base σ H s.heap) (hv : VRs s.heap σ l vals) :
    codeAny (model prog w) A (.call (.ref a) ⟨vals, []⟩) (fun r s' => ∃ val, r = .ok (.ret val) ∧ PE T w base σ s v H' val s') s := by
  have X : K.In s.heap := W.KC.X.keeps I.stays
  refine Classical.byContradiction fun hcon => ?_
  unfold evF at e
  split at e
  case h_2 => (first | exact nosome e | exact nofalse e | cases e)
  rename_i ρ hρ
  cases l with
  | nil => (first | exact nosome hρ | exact nofalse hρ | cases hρ)
  | cons x l =>
  cases l with
  | cons => (first | exact nosome hρ | exact nofalse hρ | cases hρ)
  | nil =>
  obtain ⟨val, rfl, hx⟩ := hv.one
  have hρ : some ((rho0 (nv + 1)).set 0 (some x)) = some ρ := hρ
  (first | exact nosome hρ | exact nofalse hρ | cases hρ)
  have hρ0 : ((rho0 (nv + 1)).set 0 (some x))[0]? = some (some x) := by simp [rho0]
  simp only [evS, evE, hρ0, e_cst, e_var, e_glob, e_nil, e_cons, e_tup, e_lst, e_lstH, e_dictH, e_and, e_or, e_not, e_neg, e_bin, e_cmp, e_cmp2, e_cmp3, e_ife, e_attr, e_sub, e_slice, e_rev, e_call, e_meth, e_new, e_sup, e_bm, e_bi, e_isi, e_comp, e_bvn, s_skip, s_seq, s_asg, s_asgT, s_setA, s_setI, s_ex, s_ite, s_whl, s_forS, s_ret, s_retF, s_cont, s_bad] at e
  (first | exact nosome x | exact nofalse x | cases x)
  case ref i =>
    dsimp only at e
    cases hi : H[i]? with
    | none => rw [hi] at e; (first | exact nosome e | exact nofalse e | cases e)
    | some o =>
      rw [hi] at e
      (first | exact nosome o | exact nofalse o | cases o)
      case inst c al =>
        dsimp only at e
        by_cases hc0 : Nat.beq c 0 = true
        case neg => rw [if_neg hc0] at e; (first | exact nosome e | exact nofalse e | cases e)
        rw [if_pos hc0] at e
        have hc0 := Nat.eq_of_beq_eq_true hc0
        subst hc0
        cases hcall : C fB' [.ref i] H with
        | none => rw [hcall] at e; (first | exact nosome e | exact nofalse e | cases e)
        | some uH =>
          obtain ⟨u, H1⟩ := uH
          rw [hcall] at e
          dsimp only at e
          by_cases hfl : flatV u = true
          case neg => rw [if_neg hfl] at e; (first | exact nosome e | exact nofalse e | cases e)
          rw [if_pos hfl] at e
          dsimp only at e
          refine hcon ?_
          have hsc' := hsc
          unfold okFnScope at hsc'
          simp only [Bool.and_eq_true, beq_iff_eq, List.all_eq_true, Bool.or_eq_true, Bool.not_eq_true', Prod.forall] at hsc'
          obtain ⟨⟨⟨hk, hgen⟩, hco⟩, hnames⟩ := hsc'
          obtain ⟨xa, dd, Cc, es, n', q1, q2, q3, q4, q5, q6⟩ := I.instAt hi
          rw [hTD] at q2; (first | exact nosome q2 | exact nofalse q2 | cases q2)
          have hval := hx.refAt q1
          subst hval
          refine ks_codeAny_call_defAt (fd := ksFn name qual params [.Expr (.Call (.Attribute (.Call (.Name "super" p0) [] [] p1) "__init__" p2) [] [] p3) p4, st2] scope .none .none doc pm an (.ref cda) ct cc) (binds := [(x0, .ref xa)])
            (by have := hb.2.1; omega) (X _ _ hf) rfl (W.lim.keeps I.stays) (codeRec_of X hcd) rfl (BindsTo.of_eq ?_) hnc ?_ (fun h₁ hns hk₁ => ?_) hco hgen hk
          · subst hpar
            exact bind_plain ⟨rfl, rfl, rfl, rfl, rfl⟩ rfl rfl rfl (by simp)
          · intro y hy
            rw [List.mem_singleton.mp hy]; exact hka
          · have g1 : ∀ b o, s.heap.get? b = some o → h₁.get? b = some o := hk₁
            have FR : Fr s.heap s.heap.objs.size h₁ (fun x => [(x0, Value.ref xa)].reverse.lookup x) := ⟨hns, hk₁, Nat.le_refl _⟩
            have I1 := I.more g1
            obtain ⟨xa', dd', Cc', es', n'', r1, r2, r3, r4, r5, r6⟩ := I1.instAt hi
            rw [q1] at r1; (first | exact nosome r1 | exact nofalse r1 | cases r1)
            rw [hTD] at r2; (first | exact nosome r2 | exact nofalse r2 | cases r2)
            have TT := Tp.keeps I.stays
            refine ks_wpAt_execs_cons (ks_wpAt_Expr_any (ks_wpAt_MethodCall (pl := pl _) ?_ (heval _)) (by unfold interactive; show (scope.kind == .module && _) = false; rw [hk]; rfl))
            refine ks_node (s := { s with heap := h₁, toks := s.toks + 1 }) (h₀ := s.heap) (q := qual) FR X (News.nil) TT hf (by subst hpar; rfl) (by simp) r3 hcode hvs hfile hcell hD hsub hsuper (by decide +kernel) hks hkc hka hk htop hboot ?_
            intro so h2 F2 N2 _
            have I2 := I.more F2.keep
            obtain ⟨xb, db, Cb, eb, nb, s1', s2', s3', s4', s5', s6'⟩ := I2.instAt hi
            rw [q1] at s1'; (first | exact nosome s1' | exact nofalse s1' | cases s1')
            rw [hTD] at s2'; (first | exact nosome s2' | exact nofalse s2' | cases s2')
            refine ks_method (s := { s with heap := h2, toks := s.toks + 1 }) F2 X N2 (.head _) s3' hthird hm ht (by decide +kernel) ?_
            intro q h3 F3 N3 _
            have I3 := I.more F3.keep
            have X3 : K.In h3 := X.keeps F3.keep
            have hq3 := (N3 _ (.head _)).1
            dsimp only
            refine (callM (K := K) (s := { s with heap := h3, toks := s.toks + 1 + 1 }) (Q := PE T w base σ { s with heap := h3, toks := s.toks + 1 + 1 } u H1) ⟨hq3, X3⟩ hfB (wpAny_call (ks_codeAny_call_bound hq3 ?_))).to ?_
            · have st3 : Stp σ σ s { s with heap := h3, toks := s.toks + 1 + 1 } := Stp.more F3.keep
              have bud : Bud n (A.deeper (ksEnv qual scope s.heap.objs.size a (.ref cda) cc)) := (BudB.deeper hb _).bud
              refine codeAny_mono (hC _ bud fB' fB _ _ _ _ _ { s with heap := h3, toks := s.toks + 1 + 1 } [.ref xa] hfa hcall I3 (hv.stp st3)) ?_
              rintro r s' ⟨val', rfl, hpe⟩
              exact hpe
            · rintro val' s4 ⟨σ4, st4, I4, v4⟩
              have st3 : Stp σ σ s { s with heap := h3, toks := s.toks + 1 + 1 } := Stp.more F3.keep
              have hLn : s.heap.get? s.heap.objs.size = none := fresh_none _
              have F3' : Frm (ownNm scope.names 0) (ksEnv qual scope s.heap.objs.size a (.ref cda) cc) base h3 σ ((rho0 (nv + 1)).set 0 (some (.ref i))) := by
                refine ⟨hk, rfl, rfl, I.notNew hLn, ?_, ⟨_, F3.ns, fun y j hy hky u hu => ?_⟩, fun y j hy hky => ?_, fun y z c hy hz => ?_, fun y z j hy hz => (hn1 y j hy).trans (hn1 z j hz).symm⟩
                · cases z : base.get? s.heap.objs.size with
                  | none => rfl
                  | some o => rw [I.stays _ _ z] at hLn; (first | exact nosome hLn | exact nofalse hLn | cases hLn)
                · have := hn1 y j hy
                  subst this
                  rw [hn0] at hy; (first | exact nosome hy | exact nofalse hy | cases hy)
                  rw [hρ0] at hu; (first | exact nosome hu | exact nofalse hu | cases hu)
                  exact ⟨.ref xa, by simp, hx.stp st3⟩
                · have := hn1 y j hy
                  subst this
                  rcases hky with z | z
                  · have z : scope.names.lookup y = some .cell := z; rw [hka] at z; (first | exact nosome z | exact nofalse z | cases z)
                  · have z : scope.names.lookup y = some .free := z; rw [hka] at z; (first | exact nosome z | exact nofalse z | cases z)
                · have one : ∀ {y : Str} {c : Addr}, ([(("__class__" : Str), cc)] : List (Str × Addr)).lookup y = some c → y = "__class__" := fun {y c} h => by
                    simp only [List.lookup_cons] at h
                    split at h
                    · rename_i z; exact beq_iff_eq.mp z
                    · (first | exact nosome h | exact nofalse h | cases h)
                  exact (one hy).trans (one hz).symm
              have F4 := F3'.stp st4
              refine wpAt_of_wpAny ?_
              have run : ∀ {r : R} {ρ' : Rho}, evS P C rest ((rho0 (nv + 1)).set 0 (some (.ref i))) H1 = some (r, ρ', H') → (r = .ret v ∨ (r = .next ∧ v = .none)) →
                  Ok prog w (A.deeper (ksEnv qual scope s.heap.objs.size a (.ref cda) cc)) (execs [st2] (ksEnv qual scope s.heap.objs.size a (.ref cda) cc)) s4 (fun f s' => ∃ val, (Except.ok (Flow.ret (match f with | .ret v => v | _ => .none)) : Result) = .ok (.ret val) ∧ PE T w base σ s v H' val s') := fun {r ρ'} er hr => by
                refine (sss_one (cS_ok W hC (BudB.deeper hb _) 100 st2 rest hrest (ksEnv qual scope s.heap.objs.size a (.ref cda) cc) rfl) _ H1 r ρ' H' σ4 s4 er I4 F4).to ?_
                rintro f s5 ⟨σ5, st5, I5, h5⟩
                have st := (st3.trans st4).viaO st5 fun c hc o ho => by
                  exfalso
                  rcases hc with rfl | ⟨y, j, hy, hky, _⟩
                  · have ho : s.heap.get? s.heap.objs.size = some o := ho
                    rw [hLn] at ho; (first | exact nosome ho | exact nofalse ho | cases ho)
                  · have := hn1 y j hy
                    subst this
                    rcases hky with z | z
                    · have z : scope.names.lookup y = some .cell := z; rw [hka] at z; (first | exact nosome z | exact nofalse z | cases z)
                    · have z : scope.names.lookup y = some .free := z; rw [hka] at z; (first | exact nosome z | exact nofalse z | cases z)
                rcases hr with rfl | ⟨rfl, rfl⟩
                · obtain ⟨val, rfl, hval⟩ := h5
                  exact ⟨val, rfl, σ5, st, I5, hval⟩
                · obtain ⟨rfl, _⟩ := h5
                  exact ⟨.none, rfl, σ5, st, I5, rfl⟩
              split at e
              · rename_i u' ρ' H2 er
                first | (replace e := s3 e; obtain ⟨h1', h2', h3'⟩ := e; subst h1'; cases h2'; (first | exact nosome h3' | exact nofalse h3' | cases h3')) | (replace e := s2 e; obtain ⟨rfl, rfl⟩ := e) | (first | exact nosome e | exact nofalse e | cases e)
                exact (run er (.inl rfl)).to fun _ _ h => h
              · rename_i ρ' H2 er
                first | (replace e := s3 e; obtain ⟨h1', h2', h3'⟩ := e; subst h1'; cases h2'; (first | exact nosome h3' | exact nofalse h3' | cases h3')) | (replace e := s2 e; obtain ⟨rfl, rfl⟩ := e) | (first | exact nosome e | exact nofalse e | cases e)
                exact (run er (.inr ⟨rfl, rfl⟩)).to fun _ _ h => h
              · (first | exact nosome e | exact nofalse e | cases e)
      all_goals (first | exact nosome e | exact nofalse e | cases e)
  all_goals (first | exact nosome e | exact nofalse e | cases e)
end
end Mine
namespace Mine
open PySem
noncomputable def evR (P : Pg) (C : CallT) (e : E) : Ev := E.rec (motive := fun _ => Ev)
  (fun v => e_cst v)
  (fun i => e_var i)
  (fun u0 v => e_glob v)
  (e_nil)
  (fun a b r_a r_b => e_cons r_a r_b)
  (fun es r_es => e_tup r_es)
  (fun es r_es => e_lst r_es)
  (fun es r_es => e_lstH r_es)
  (fun ks vs r_ks r_vs => e_dictH r_ks r_vs)
  (fun a b r_a r_b => e_and r_a r_b)
  (fun a b r_a r_b => e_or r_a r_b)
  (fun a r_a => e_not r_a)
  (fun a r_a => e_neg r_a)
  (fun op a b r_a r_b => e_bin op r_a r_b)
  (fun op a b r_a r_b => e_cmp op r_a r_b)
  (fun o1 o2 a b c r_a r_b r_c => e_cmp2 o1 o2 r_a r_b r_c)
  (fun o1 o2 o3 a b c d r_a r_b r_c r_d => e_cmp3 o1 o2 o3 r_a r_b r_c r_d)
  (fun t a b r_t r_a r_b => e_ife r_t r_a r_b)
  (fun e x r_e => e_attr P r_e x)
  (fun e k r_e r_k => e_sub r_e r_k)
  (fun e lo hi r_e r_lo r_hi => e_slice r_e r_lo r_hi)
  (fun e r_e => e_rev r_e)
  (fun f args r_args => e_call C f r_args)
  (fun e x args r_e r_args => e_meth P C r_e x r_args)
  (fun c args r_args => e_new P C c r_args)
  (fun f => e_sup C f)
  (fun op e args r_e r_args => e_bm op r_e r_args)
  (fun op args r_args => e_bi op r_args)
  (fun e t r_e => e_isi r_e t)
  (fun elt tg it cond r_elt r_it r_cond => e_comp r_elt tg r_it r_cond)
  (fun e r_e => e_bvn r_e)
  e
theorem evR_eq (P : Pg) (C : CallT) (e : E) : evR P C e = evE P C e := by
  induction e with
  | cst v =>
    show e_cst v = _
    rfl
  | var i =>
    show e_var i = _
    rfl
  | glob u0 v =>
    show e_glob v = _
    rfl
  | nil =>
    show e_nil = _
    rfl
  | cons a b h_a h_b =>
    show e_cons (evR P C a) (evR P C b) = _
    rw [h_a, h_b]
    rfl
  | tup es h_es =>
    show e_tup (evR P C es) = _
    rw [h_es]
    rfl
  | lst es h_es =>
    show e_lst (evR P C es) = _
    rw [h_es]
    rfl
  | lstH es h_es =>
    show e_lstH (evR P C es) = _
    rw [h_es]
    rfl
  | dictH ks vs h_ks h_vs =>
    show e_dictH (evR P C ks) (evR P C vs) = _
    rw [h_ks, h_vs]
    rfl
  | and a b h_a h_b =>
    show e_and (evR P C a) (evR P C b) = _
    rw [h_a, h_b]
    rfl
  | or a b h_a h_b =>
    show e_or (evR P C a) (evR P C b) = _
    rw [h_a, h_b]
    rfl
  | not a h_a =>
    show e_not (evR P C a) = _
    rw [h_a]
    rfl
  | neg a h_a =>
    show e_neg (evR P C a) = _
    rw [h_a]
    rfl
  | bin op a b h_a h_b =>
    show e_bin op (evR P C a) (evR P C b) = _
    rw [h_a, h_b]
    rfl
  | cmp op a b h_a h_b =>
    show e_cmp op (evR P C a) (evR P C b) = _
    rw [h_a, h_b]
    rfl
  | cmp2 o1 o2 a b c h_a h_b h_c =>
    show e_cmp2 o1 o2 (evR P C a) (evR P C b) (evR P C c) = _
    rw [h_a, h_b, h_c]
    rfl
  | cmp3 o1 o2 o3 a b c d h_a h_b h_c h_d =>
    show e_cmp3 o1 o2 o3 (evR P C a) (evR P C b) (evR P C c) (evR P C d) = _
    rw [h_a, h_b, h_c, h_d]
    rfl
  | ife t a b h_t h_a h_b =>
    show e_ife (evR P C t) (evR P C a) (evR P C b) = _
    rw [h_t, h_a, h_b]
    rfl
  | attr e x h_e =>
    show e_attr P (evR P C e) x = _
    rw [h_e]
    rfl
  | sub e k h_e h_k =>
    show e_sub (evR P C e) (evR P C k) = _
    rw [h_e, h_k]
    rfl
  | slice e lo hi h_e h_lo h_hi =>
    show e_slice (evR P C e) (evR P C lo) (evR P C hi) = _
    rw [h_e, h_lo, h_hi]
    rfl
  | rev e h_e =>
    show e_rev (evR P C e) = _
    rw [h_e]
    rfl
  | call f args h_args =>
    show e_call C f (evR P C args) = _
    rw [h_args]
    rfl
  | meth e x args h_e h_args =>
    show e_meth P C (evR P C e) x (evR P C args) = _
    rw [h_e, h_args]
    rfl
  | new c args h_args =>
    show e_new P C c (evR P C args) = _
    rw [h_args]
    rfl
  | sup f =>
    show e_sup C f = _
    rfl
  | bm op e args h_e h_args =>
    show e_bm op (evR P C e) (evR P C args) = _
    rw [h_e, h_args]
    rfl
  | bi op args h_args =>
    show e_bi op (evR P C args) = _
    rw [h_args]
    rfl
  | isi e t h_e =>
    show e_isi (evR P C e) t = _
    rw [h_e]
    rfl
  | comp elt tg it cond h_elt h_it h_cond =>
    show e_comp (evR P C elt) tg (evR P C it) (evR P C cond) = _
    rw [h_elt, h_it, h_cond]
    rfl
  | bvn e h_e =>
    show e_bvn (evR P C e) = _
    rw [h_e]
    rfl
noncomputable def svR (P : Pg) (C : CallT) (e : S) : Sv := S.rec (motive := fun _ => Sv)
  (s_skip)
  (fun a b r_a r_b => s_seq r_a r_b)
  (fun i e => s_asg i (evR P C e))
  (fun is e => s_asgT is (evR P C e))
  (fun o x e => s_setA P (evR P C o) x (evR P C e))
  (fun o k e => s_setI (evR P C o) (evR P C k) (evR P C e))
  (fun e => s_ex (evR P C e))
  (fun t a b r_a r_b => s_ite (evR P C t) r_a r_b)
  (fun t b r_b => s_whl (evR P C t) r_b)
  (fun tg it b r_b => s_forS tg (evR P C it) r_b)
  (fun e => s_ret (evR P C e))
  (fun i => s_retF i)
  (s_cont)
  (s_bad)
  e
theorem svR_eq (P : Pg) (C : CallT) (e : S) : svR P C e = evS P C e := by
  induction e with
  | skip =>
    show s_skip = _
    rfl
  | seq a b h_a h_b =>
    show s_seq (svR P C a) (svR P C b) = _
    rw [h_a, h_b]
    rfl
  | asg i e =>
    show s_asg i (evR P C e) = _
    rw [evR_eq P C e]
    rfl
  | asgT is e =>
    show s_asgT is (evR P C e) = _
    rw [evR_eq P C e]
    rfl
  | setA o x e =>
    show s_setA P (evR P C o) x (evR P C e) = _
    rw [evR_eq P C o, evR_eq P C e]
    rfl
  | setI o k e =>
    show s_setI (evR P C o) (evR P C k) (evR P C e) = _
    rw [evR_eq P C o, evR_eq P C k, evR_eq P C e]
    rfl
  | ex e =>
    show s_ex (evR P C e) = _
    rw [evR_eq P C e]
    rfl
  | ite t a b h_a h_b =>
    show s_ite (evR P C t) (svR P C a) (svR P C b) = _
    rw [evR_eq P C t, h_a, h_b]
    rfl
  | whl t b h_b =>
    show s_whl (evR P C t) (svR P C b) = _
    rw [evR_eq P C t, h_b]
    rfl
  | forS tg it b h_b =>
    show s_forS tg (evR P C it) (svR P C b) = _
    rw [evR_eq P C it, h_b]
    rfl
  | ret e =>
    show s_ret (evR P C e) = _
    rw [evR_eq P C e]
    rfl
  | retF i =>
    show s_retF i = _
    rfl
  | cont =>
    show s_cont = _
    rfl
  | bad =>
    show s_bad = _
    rfl
noncomputable def evFr (P : Pg) (C : CallT) (fn : Fn) (args : List V) (H : Hp) : Option (V × Hp) := match setAll fn.params args (rho0 fn.nv) with
  | some ρ => match svR P C fn.body ρ H with
    | some (.ret v, _, H) => some (v, H)
    | some (.next, _, H) => some (.none, H)
    | _ => Option.none
  | Option.none => Option.none
noncomputable def runR (P : Pg) (fns : Nat → Option Fn) : Nat → CallT
  | 0 => fun _ _ _ => Option.none
  | n + 1 => fun f args H => match fns f with
    | some fn => evFr P (runR P fns n) fn args H
    | Option.none => Option.none
set_option tactic.hygienic true in
theorem evFr_eq (P : Pg) (C : CallT) (fn : Fn) : evFr P C fn = evF P C fn := by
  funext args H
  unfold evFr evF
  rw [svR_eq]
  all_goals rfl
set_option tactic.hygienic true in
theorem runR_eq (P : Pg) (fns : List Fn) (g : Nat → Option Fn) (hg : ∀ f, g f = fns[f]?) : ∀ n, runR P g n = runF P fns n
  | 0 => rfl
  | n + 1 => by
    funext f args H
    show (match g f with | some fn => evFr P (runR P g n) fn args H | Option.none => Option.none) = _
    rw [hg f, runR_eq P fns g hg n]
    cases h : fns[f]? with
    | none => simp [runF, h]
    | some fn => simp [runF, h, evFr_eq]
end Mine
set_option linter.unusedSimpArgs false
namespace Mine
open PySem PySem.W PyProof.Rows PySem.MeetsSeq PySem.SeqAt PyProof.Rows.LCg
section
variable {prog : Program} {w : World} {T : Tb} {base : Heap} {P : Pg} {C : CallT} {A : Around} {nm nm1 : Nm} {env : Env} {s : Shared} {σ : Sg} {ρ : Rho} {H : Hp} {K : Frag} {fa : List Addr} {n : Nat} {G : Gt}
theorem fn_enter {a : Addr} {fd : FuncData} {fn : Fn} {hl : List Str} {body : List Stmt} (hlim : base.NoLimit) (FA : FnAt base G a fd) (FO : FnOk G hl fd fn body) (hb : Bud (n + 1) A)
    {l : List V} {vals : List Value} {v : V} {H' : Hp} {ρ : Rho} (hρ : setAll fn.params l (rho0 fn.nv) = some ρ) (I : Inv T w base σ H s.heap) (hv : VRs s.heap σ l vals)
    (hrun : ∀ (env : Env) (s1 : Shared), env.scope = fd.scope → Stp σ σ s s1 → Inv T w base σ H s1.heap → Frm (ownNm fd.scope.names 0) env base s1.heap σ ρ → (∀ c, Own (ownNm fd.scope.names 0) env c → ∀ o, s.heap.get? c = some o → Rng σ c) → BudB n (A.deeper env) →
      Ok prog w (A.deeper env) (execs body env) s1 fun f s' => PE T w base σ s v H' (match f with | .ret v => v | _ => .none) s') :
    codeAny (model prog w) A (.call (.ref a) ⟨vals, []⟩) (fun r s' => ∃ val, r = .ok (.ret val) ∧ PE T w base σ s v H' val s') s := by
  obtain ⟨o, ho, hdat⟩ := FA.at'
  have av := vars_of FO.vars
  have hlen : fd.params.args.length = vals.length := by
    have h1 := av.len
    have h2 := setAll_len hρ
    have h3 := hv.length
    simp at h1
    omega
  have hsc := FO.sc
  unfold okFnScope at hsc
  simp only [Bool.and_eq_true, beq_iff_eq, List.all_eq_true, Bool.or_eq_true, Bool.not_eq_true', Prod.forall] at hsc
  obtain ⟨⟨⟨hk, hgen⟩, hco⟩, hnames⟩ := hsc
  have inj : ∀ x y i, nfind x (ownNm fd.scope.names 0) = some i → nfind y (ownNm fd.scope.names 0) = some i → x = y := fun x y i hx hy => noDup_inj (own_noDup _ _) (nfind_mem hx) (nfind_mem hy)
  have kindOf : ∀ x i, nfind x (ownNm fd.scope.names 0) = some i → fd.scope.names.lookup x = some .local ∨ fd.scope.names.lookup x = some .cell := fun x i hx =>
    (own_mem (nfind_mem hx)).imp (fun q => (hnames _ _ q).1) fun q => (hnames _ _ q).1
  have memvar : ∀ {xs : List Str} {is : List Nat} {x : Str}, AllVars fd.scope (ownNm fd.scope.names 0) xs is → x ∈ xs → ∃ i, cVar fd.scope (ownNm fd.scope.names 0) x = some i := fun h => by
    induction h with
    | nil => intro hm; (first | exact nosome hm | exact nofalse hm | cases hm)
    | cons h1 h2 ih =>
      intro hm
      rcases List.mem_cons.mp hm with rfl | hm
      · exact ⟨_, h1⟩
      · exact ih hm
  refine codeAny_call_cells (by have := hb.2.1; omega) (I.stays _ _ ho) hdat (hlim.keeps I.stays) (FA.code.keeps I.stays) FO.bd
    (bind_plain FO.par FA.dfl FA.kwd hlen (vars_nodup av FO.nd)) FA.clo ?_ ?_ hco hgen hk
  · rintro ⟨x, val⟩ hx
    have hm : x ∈ fd.params.args.map (·.arg) := (List.of_mem_zip hx).1
    obtain ⟨i, hi⟩ := memvar av hm
    obtain ⟨q, q'⟩ := cVar_kind hi
    rcases q with q | q
    · exact .inl q
    · exact .inr ⟨q, cells_has _ _ _ (look_mem q)⟩
  · intro s1 IC
    obtain ⟨h1, tk1, rfl⟩ := IC.toInCall.same
    have g1 : ∀ b o, s.heap.get? b = some o → h1.get? b = some o := IC.toInCall.keep
    have st1 : Stp σ σ s { s with heap := h1, toks := tk1 } := Stp.more g1
    have I1 := I.more g1
    have hv1 := hv.stp st1
    have old : ∀ c, s.heap.objs.size ≤ c → s.heap.get? c = none := fun c hc => by
      cases z : s.heap.get? c with
      | none => rfl
      | some o => exact absurd (Heap.lt_size z) (Nat.not_lt.mpr hc)
    have obase : ∀ c, s.heap.get? c = none → base.get? c = none := fun c hc => by
      cases z : base.get? c with
      | none => rfl
      | some o => rw [I.stays _ _ z] at hc; (first | exact nosome hc | exact nofalse hc | cases hc)
    have hpar := par_ok (sc := fd.scope) (h := h1) (σ := σ) (m := fun _ => none) (cm := fun _ => none) inj av hρ hv1 (fun x i hx u hu => absurd hu (rho0_none _ _ _))
    have hLn : s.heap.get? (callEnvC fd s.heap.objs.size a).locals = none := old _ (Nat.le_refl _)
    have F1 : Frm (ownNm fd.scope.names 0) (callEnvC fd s.heap.objs.size a) base h1 σ ρ := by
      refine ⟨hk, FA.glob, FA.blt, I.notNew hLn, obase _ hLn, ⟨_, IC.toInCall.ns, fun x i hx hkx u hu => (hpar x i hx u hu).1 hkx⟩, fun x i hx hkx => ?_, fun x y c hx hy => ?_, inj⟩
      · have hkc : fd.scope.names.lookup x = some .cell := by
          rcases kindOf x i hx with q | q
          · rcases hkx with z | z
            · have z : fd.scope.names.lookup x = some .cell := z; rw [q] at z; (first | exact nosome z | exact nofalse z | cases z)
            · have z : fd.scope.names.lookup x = some .free := z; rw [q] at z; (first | exact nosome z | exact nofalse z | cases z)
          · exact q
        obtain ⟨c, hc⟩ := Option.isSome_iff_exists.mp (cells_has _ (s.heap.objs.size + 1) [] (look_mem hkc))
        have hc : (callEnvC fd s.heap.objs.size a).cells.lookup x = some c := hc
        have hlt := IC.above x c (mem_of_lookup hc)
        have hcn : s.heap.get? c = none := old _ (Nat.le_of_lt hlt)
        exact ⟨c, hc, I.notNew hcn, obase _ hcn, _, IC.cell x c hc, fun u hu => (hpar x i hx u hu).2 hkc⟩
      · exact name_of_addr IC.apart (mem_of_lookup hx) (mem_of_lookup hy)
    have hown : ∀ c, Own (ownNm fd.scope.names 0) (callEnvC fd s.heap.objs.size a) c → ∀ o, s.heap.get? c = some o → Rng σ c := fun c hc o ho => by
      exfalso
      rcases hc with rfl | ⟨x, i, _, _, hx⟩
      · rw [hLn] at ho; (first | exact nosome ho | exact nofalse ho | cases ho)
      · have := IC.above x c (mem_of_lookup hx)
        rw [old c (Nat.le_of_lt this)] at ho; (first | exact nosome ho | exact nofalse ho | cases ho)
    refine (hrun (callEnvC fd s.heap.objs.size a) { s with heap := h1, toks := tk1 } rfl st1 I1 F1 hown (BudB.deeper hb _)).to ?_
    intro f s2 h2
    exact ⟨_, rfl, h2⟩
theorem Inv.swap {h : Heap} (I : Inv T w base σ H h) {i : Nat} {o o' : O} (hi : H[i]? = some o) (he : ∀ p, OR T w h σ o p → OR T w h σ o' p) : Inv T w base σ (H.set i o') h := by
  refine ⟨I.stays, I.fresh, I.glob, by rw [List.length_set]; exact I.len, I.inj, fun j y p e q => ?_⟩
  by_cases hij : i = j
  · subst hij
    rw [List.getElem?_set_self (lt_of_get hi)] at e
    first | (replace e := s3 e; obtain ⟨h1', h2', h3'⟩ := e; subst h1'; cases h2'; (first | exact nosome h3' | exact nofalse h3' | cases h3')) | (replace e := s2 e; obtain ⟨rfl, rfl⟩ := e) | (first | exact nosome e | exact nofalse e | cases e)
    exact he p (I.hr i o p hi q)
  · rw [List.getElem?_set_ne hij] at e
    exact I.hr j y p e q
theorem feed_dict {h : Heap} {k : Nat} {p : Option (Addr × Addr)} (e : OR T w h σ (.feed k) p) : OR T w h σ (.dict (feedD T.cells k)) p := by
  obtain ⟨a, es, n, h1, h2, h3, h4⟩ := e
  exact ⟨a, es, n, h1, h2, h3, h4⟩
theorem dict_feed {h : Heap} {k : Nat} {p : Option (Addr × Addr)} (e : OR T w h σ (.dict (feedD T.cells k)) p) : OR T w h σ (.feed k) p := by
  obtain ⟨a, es, n, h1, h2, h3, h4⟩ := e
  exact ⟨a, es, n, h1, h2, h3, h4⟩
theorem next_code (W : Wd prog w K T base P fa G) (hC : CO prog w T base fa n C) {a : Addr} {fd : FuncData} {fn : Fn} {hl : List Str} {body : List Stmt} (FA : FnAt base G a fd) (FO : FnOk G hl fd fn body) (hb : Bud (n + 1) A)
    {i k : Nat} {wide d : Int} {vals : List Value} (hi : H[i]? = some (.feed k)) (hev : evF P C fn [.ref i, .int wide] (H.set i (.dict (feedD T.cells k))) = some (.int d, (H.set i (.dict (feedD T.cells k))).set i (.dict (feedD T.cells (k + 1)))))
    (I : Inv T w base σ H s.heap) (hv : VRs s.heap σ [.ref i, .int wide] vals) :
    codeAny (model prog w) A (.call (.ref a) ⟨vals, []⟩) (fun r s' => ∃ val, r = .ok (.ret val) ∧ PE T w base σ s (.int d) (H.set i (.feed (k + 1))) val s') s := by
  have hlt := lt_of_get hi
  have I2 := I.swap hi fun p => feed_dict
  refine codeAny_mono (fn_code W.lim FA FO hb (fun A' hb' env he => cSs_ok (fun st ir h => cS_ok W hC hb' 100 st ir h) FO.comp env he) hev I2 hv) ?_
  rintro r s' ⟨val, rfl, σ', st, I', v'⟩
  refine ⟨val, rfl, σ', st, ?_, v'⟩
  have := I'.swap (i := i) (o := .dict (feedD T.cells (k + 1))) (o' := .feed (k + 1)) (List.getElem?_set_self (by simpa using hlt)) fun p => dict_feed
  simpa [List.set_set] using this
theorem law_code (W : Wd prog w K T base P fa G) (hC : CO prog w T base fa n C) {a : Addr} {fd : FuncData} {fn : Fn} {hl : List Str} {st1 : Stmt} {body : List Stmt} (FA : FnAt base G a fd) (FO : FnOk G hl fd fn (st1 :: body)) (hb : Bud (n + 1) A)
    {e1 : S} {eb : S} {v x : V} {vals : List Value} {H1 : Hp} {ρ ρ1 ρ2 : Rho}
    (h1 : cS G (ownNm fd.scope.names 0).length fd.scope (ownNm fd.scope.names 0) hl 100 st1 = some e1) (h2 : cSs (cS G (ownNm fd.scope.names 0).length fd.scope (ownNm fd.scope.names 0) hl 100) body = some eb)
    (hρ : setAll fn.params [x] (rho0 fn.nv) = some ρ) (r1 : evS P C e1 ρ [] = some (.next, ρ1, [.dict (feedD T.cells 0)])) (r2 : evS P C eb ρ1 [.feed 0] = some (.ret v, ρ2, H1))
    (I : Inv T w base [] [] s.heap) (hv : VRs s.heap [] [x] vals) :
    codeAny (model prog w) A (.call (.ref a) ⟨vals, []⟩) (fun r s' => ∃ val, r = .ok (.ret val) ∧ PE T w base [] s v H1 val s') s := by
  refine fn_enter W.lim FA FO hb hρ I hv ?_
  intro env s1 he st I1 F1 hown hB
  refine flow_tail ((cS_ok W hC hB 100 st1 e1 h1 env he ρ [] _ _ _ [] s1 r1 I1 F1).to ?_)
  rintro f s2 ⟨σ2, st2, I2, rfl, F2⟩
  have I3 := I2.swap (i := 0) (o := .dict (feedD T.cells 0)) (o' := .feed 0) rfl fun p => dict_feed
  refine ((cSs_ok (fun st ir h => cS_ok W hC hB 100 st ir h) h2 env he) ρ1 [.feed 0] _ _ _ σ2 s2 r2 I3 F2).to ?_
  rintro f s3 ⟨σ3, st3, I4, val, rfl, hval⟩
  exact ⟨σ3, st.viaO (st2.trans st3 F2.owned) hown, I4, hval⟩
noncomputable def nextR (ds : List (Int × Int)) (args : List V) (H : Hp) : Option (V × Hp) := match args with
  | [.ref i, .int wide] => match H[i]? with
    | some (.feed k) => match ds[k]? with
      | some (wd, d) => if intEq wide wd then some (.int d, H.set i (.feed (k + 1))) else Option.none
      | Option.none => Option.none
    | _ => Option.none
  | _ => Option.none
noncomputable def runX (P : Pg) (fns : Nat → Option Fn) (via : List Nat) (nx : Nat) (ds : List (Int × Int)) : Nat → CallT
  | 0 => fun _ _ _ => Option.none
  | n + 1 => fun f args H => match Nat.beq f nx with
    | true => nextR ds args H
    | false => match via.any (Nat.beq f) with
      | true => (match fns f with
        | some fn => evFr P (runX P fns via nx ds n) fn args H
        | Option.none => Option.none)
      | false => runR P fns (n + 1) f args H
set_option tactic.hygienic true in
theorem co_x (W : Wd prog w K T base P fa G) {fl : List Fn} {fns : Nat → Option Fn} (hfns : ∀ f, fns f = fl[f]?) {via : List Nat} {nx : Nat} {ds : List (Int × Int)} (hR : ∀ m, CO prog w T base fa m (runF P fl m))
    (hnx : ∀ m A, Bud (m + 1) A → ∀ l H v H' σ s vals a, fa[nx]? = some a → nextR ds l H = some (v, H') → Inv T w base σ H s.heap → VRs s.heap σ l vals →
        codeAny (model prog w) A (.call (.ref a) ⟨vals, []⟩) (fun r s' => ∃ val, r = .ok (.ret val) ∧ PE T w base σ s v H' val s') s)
    (ok : ∀ (f : Nat) (a : Addr) (fn : Fn), via.any (Nat.beq f) = true → fa[f]? = some a → fl[f]? = some fn → ∃ fd hl body, FnAt base G a fd ∧ FnOk G hl fd fn body) : ∀ m, CO prog w T base fa m (runX P fns via nx ds m)
  | 0 => fun A hb f a l H v H' σ s vals ha e => nomatch e
  | m + 1 => by
    intro A hb f a l H v H' σ s vals ha e I hv
    unfold runX at e
    split at e
    · rename_i q
      have := Nat.eq_of_beq_eq_true q
      subst this
      exact hnx m A hb l H v H' σ s vals a ha e I hv
    · split at e
      · rename_i q
        rw [hfns f] at e
        split at e
        · rename_i fn hfn
          obtain ⟨fd, hl, body, FA, FO⟩ := ok f a fn q ha hfn
          rw [evFr_eq] at e
          exact fn_code W.lim FA FO hb (fun A' hb' env he => cSs_ok (fun st ir h => cS_ok W (co_x W hfns hR hnx ok m) hb' 100 st ir h) FO.comp env he) e I hv
        · (first | exact nosome e | exact nofalse e | cases e)
      · rw [runR_eq P fl fns hfns] at e
        exact hR (m + 1) A hb f a l H v H' σ s vals ha e I hv
end
end Mine
set_option linter.unusedSimpArgs false
namespace Mine
open PySem PySem.W PyProof.Rows PySem.MeetsSeq PySem.SeqAt PyProof.Rows.LCg
noncomputable def fdAt (K : Frag) (a : Addr) : Option FuncData := match K.lookup a with
  | some o => (match o.data with
    | .func fd => some fd
    | _ => none)
  | none => none
noncomputable def noneV : Value → Bool
  | .none => true
  | _ => false
noncomputable def fnChk (K : Frag) (a : Addr) : Bool := match fdAt K a with
  | some fd => fd.closure.isEmpty && Nat.beq fd.globals mainGlobals && Nat.beq fd.builtins builtinsNs && noneV fd.defaults && noneV fd.kwdefaults && codeIn K fd.code fd.qualname
  | none => false
theorem noneV_iff {v : Value} (h : noneV v = true) : v = .none := by cases v <;> first | rfl | (first | exact nosome h | exact nofalse h | cases h)
set_option tactic.hygienic true in
theorem fdAt_get {K : Frag} {base : Heap} {a : Addr} {fd : FuncData} (X : K.In base) (h : fdAt K a = some fd) : ∃ o, base.get? a = some o ∧ o.data = .func fd := by
  unfold fdAt at h
  split at h
  · rename_i o ho
    split at h
    · rename_i fd' hd
      first | (replace h := s3 h; obtain ⟨h1', h2', h3'⟩ := h; subst h1'; cases h2'; (first | exact nosome h3' | exact nofalse h3' | cases h3')) | (replace h := s2 h; obtain ⟨rfl, rfl⟩ := h) | (first | exact nosome h | exact nofalse h | cases h)
      exact ⟨o, X _ _ ho, hd⟩
    · (first | exact nosome h | exact nofalse h | cases h)
  · (first | exact nosome h | exact nofalse h | cases h)
set_option tactic.hygienic true in
theorem entry_ok {K : Frag} {base : Heap} {G : Gt} {a : Addr} {fn : Fn} {hl : List Str} (X : K.In base) (h1 : fnChk K a = true) (h2 : (fdAt K a).bind (cFn G hl) = some fn) : ∃ fd hl body, FnAt base G a fd ∧ FnOk G hl fd fn body := by
  unfold fnChk at h1
  split at h1
  · rename_i fd hfd
    rw [hfd] at h2
    obtain ⟨body, FO⟩ := fnOk_of (show cFn G hl fd = some fn from h2)
    simp only [Bool.and_eq_true, List.isEmpty_iff] at h1
    obtain ⟨⟨⟨⟨⟨q1, q2⟩, q3⟩, q4⟩, q5⟩, q6⟩ := h1
    exact ⟨fd, hl, body, ⟨fdAt_get X hfd, codeRec_of X q6, q1, Nat.eq_of_beq_eq_true q2, Nat.eq_of_beq_eq_true q3, noneV_iff q4, noneV_iff q5⟩, FO⟩
  · (first | exact nosome h1 | exact nofalse h1 | cases h1)
noncomputable def allV (f : V → Value → Bool) : List V → List Value → Bool
  | [], [] => true
  | a :: l, b :: r => f a b && allV f l r
  | _, _ => false
noncomputable def vrIn (K : Frag) : Nat → V → Value → Bool
  | 0, _, _ => false
  | n + 1, x, v => match x, v with
    | .int i, .int j _ => intEq i j
    | .str s, .str t _ => strEq s t
    | .tup l, .ref a => (match K.lookup a with
      | some o => (match o.data with
        | .seq items _ => o.cls == .type "tuple" && allV (vrIn K n) l items.toList
        | _ => false)
      | none => false)
    | _, _ => false
theorem allV_ok {h : Heap} {f : V → Value → Bool} (hf : ∀ x v, f x v = true → VR h [] x v) : ∀ {l : List V} {vs : List Value}, allV f l vs = true → VRs h [] l vs
  | [], [], _ => rfl
  | [], _ :: _, h => by (first | exact nosome h | exact nofalse h | cases h)
  | _ :: _, [], h => by (first | exact nosome h | exact nofalse h | cases h)
  | x :: l, v :: vs, e => by
    unfold allV at e
    rw [Bool.and_eq_true] at e
    exact ⟨v, vs, rfl, hf _ _ e.1, allV_ok hf e.2⟩
set_option tactic.hygienic true in
theorem vrIn_ok {K : Frag} {h : Heap} (X : K.In h) : ∀ (n : Nat) (x : V) (v : Value), vrIn K n x v = true → VR h [] x v
  | 0, _, _, e => by (first | exact nosome e | exact nofalse e | cases e)
  | n + 1, x, v, e => by
    unfold vrIn at e
    split at e
    · rw [intEq_iff] at e; subst e; exact ⟨_, rfl⟩
    · rw [strEq_iff] at e; subst e; exact ⟨_, rfl⟩
    · rename_i l a
      split at e
      · rename_i o ho
        split at e
        · rename_i items k hd
          rw [Bool.and_eq_true, beq_iff_eq] at e
          exact ⟨a, items, rfl, ⟨o, X _ _ ho, e.1, k, hd⟩, (fun ⟨x, hx⟩ => nomatch hx), allV_ok (fun x v => vrIn_ok X n x v) e.2⟩
        · (first | exact nosome e | exact nofalse e | cases e)
      · (first | exact nosome e | exact nofalse e | cases e)
    · (first | exact nosome e | exact nofalse e | cases e)
set_option tactic.hygienic true in
theorem nfind_some {α : Type} {x : Str} {v : α} : ∀ {l : List (Str × α)}, nfind x l = some v → (x, v) ∈ l
  | [], h => by (first | exact nosome h | exact nofalse h | cases h)
  | p :: l, h => by
    unfold nfind at h
    split at h
    · rename_i q; (first | (replace h := s3 h; obtain ⟨h1', h2', h3'⟩ := h; subst h1'; cases h2'; (first | exact nosome h3' | exact nofalse h3' | cases h3')) | (replace h := s2 h; obtain ⟨rfl, rfl⟩ := h) | (first | exact nosome h | exact nofalse h | cases h)); rw [← strEq_iff.mp q]; exact .head _
    · exact .tail _ (nfind_some h)
noncomputable def biNames : List Str := [s_abs, s_len, s_min, s_max, s_sum, s_sorted, s_tuple, s_list, s_int, s_range, s_str, s_bool, s_isinstance, s_super]
noncomputable def globChk (K : Frag) (G : Gt) (fa cls : List Addr) : Bool :=
  (G.consts.all fun p => match nsIn K mainGlobals p.1 with
    | some (some v) => vrIn K 4 p.2 v
    | _ => false) &&
  (G.fns.all fun p => match fa[p.2]?, nsIn K mainGlobals p.1 with
    | some a, some (some (.ref b)) => Nat.beq a b
    | _, _ => false) &&
  (G.classes.all fun p => match cls[p.2]?, nsIn K mainGlobals p.1 with
    | some a, some (some (.ref b)) => Nat.beq a b
    | _, _ => false) &&
  biNames.all fun x => match nsIn K mainGlobals x with
    | some none => true
    | _ => false
theorem boot_all : bootBuiltins s_abs = some (.builtin "abs") ∧ bootBuiltins s_len = some (.builtin "len") ∧ bootBuiltins s_min = some (.builtin "min") ∧ bootBuiltins s_max = some (.builtin "max") ∧ bootBuiltins s_sum = some (.builtin "sum") ∧
    bootBuiltins s_sorted = some (.builtin "sorted") ∧ bootBuiltins s_tuple = some (.type "tuple") ∧ bootBuiltins s_list = some (.type "list") ∧ bootBuiltins s_int = some (.type "int") ∧ bootBuiltins s_range = some (.type "range") ∧
    bootBuiltins s_str = some (.type "str") ∧ bootBuiltins s_bool = some (.type "bool") ∧ bootBuiltins s_isinstance = some (.builtin "isinstance") ∧ bootBuiltins s_super = some (.type "super") := by
  refine ⟨?_, ?_, ?_, ?_, ?_, ?_, ?_, ?_, ?_, ?_, ?_, ?_, ?_, ?_⟩ <;> kernel_rfl
theorem bi_notName : ∀ x ∈ biNames, x ≠ ("__name__" : Str) := by decide +kernel
theorem mem_bi {x : Str} (i : Nat) (h : biNames[i]? = some x) : x ∈ biNames := List.mem_of_getElem? h
set_option tactic.hygienic true in
theorem glob_of {K : Frag} {base : Heap} {p : Program} {loose : List Str} {mg mb : Str → Option Value} {G : Gt} {T : Tb} {fa : List Addr} (X : K.In base) (Tp : TopRead p loose mg mb base) (h : globChk K G fa T.cls = true) : GlobOk base G T fa := by
  unfold globChk at h
  simp only [Bool.and_eq_true, List.all_eq_true] at h
  obtain ⟨⟨⟨h1, h2⟩, h3⟩, h4⟩ := h
  have no : ∀ x ∈ biNames, mg x = none ∧ mb x = bootBuiltins x := fun x hx => by
    have q := h4 x hx
    split at q
    · rename_i e; exact ⟨mg_none_of X Tp.g e, Tp.builtins x (bi_notName x hx)⟩
    · (first | exact nosome q | exact nofalse q | cases q)
  obtain ⟨b1, b2, b3, b4, b5, b6, b7, b8, b9, b10, b11, b12, b13, b14⟩ := boot_all
  refine ⟨mg, mb, Tp.g, Tp.b, fun x v hx => ?_, fun x f hx => ?_, fun x c hx => ?_, fun x op hx => ?_, fun x t hx => ?_, ?_, ?_⟩
  · have q := h1 _ (nfind_some hx)
    split at q
    · rename_i val e; exact ⟨val, mg_of X Tp.g e, vrIn_ok X 4 _ _ q⟩
    · (first | exact nosome q | exact nofalse q | cases q)
  · have q := h2 _ (nfind_some hx)
    split at q
    · rename_i a b e1 e2
      refine ⟨a, e1, ?_⟩
      rw [Nat.eq_of_beq_eq_true q]
      exact mg_of X Tp.g e2
    · (first | exact nosome q | exact nofalse q | cases q)
  · have q := h3 _ (nfind_some hx)
    split at q
    · rename_i a b e1 e2
      refine ⟨a, e1, ?_⟩
      rw [Nat.eq_of_beq_eq_true q]
      exact mg_of X Tp.g e2
    · (first | exact nosome q | exact nofalse q | cases q)
  · have q := nfind_some hx
    simp only [List.mem_cons, List.not_mem_nil, Prod.mk.injEq, or_false] at q
    rcases q with ⟨rfl, rfl⟩ | ⟨rfl, rfl⟩ | ⟨rfl, rfl⟩ | ⟨rfl, rfl⟩ | ⟨rfl, rfl⟩ | ⟨rfl, rfl⟩ | ⟨rfl, rfl⟩ | ⟨rfl, rfl⟩ | ⟨rfl, rfl⟩ | ⟨rfl, rfl⟩
    · exact ⟨(no s_abs (mem_bi 0 rfl)).1, (no s_abs (mem_bi 0 rfl)).2.trans b1⟩
    · exact ⟨(no s_len (mem_bi 1 rfl)).1, (no s_len (mem_bi 1 rfl)).2.trans b2⟩
    · exact ⟨(no s_min (mem_bi 2 rfl)).1, (no s_min (mem_bi 2 rfl)).2.trans b3⟩
    · exact ⟨(no s_max (mem_bi 3 rfl)).1, (no s_max (mem_bi 3 rfl)).2.trans b4⟩
    · exact ⟨(no s_sum (mem_bi 4 rfl)).1, (no s_sum (mem_bi 4 rfl)).2.trans b5⟩
    · exact ⟨(no s_sorted (mem_bi 5 rfl)).1, (no s_sorted (mem_bi 5 rfl)).2.trans b6⟩
    · exact ⟨(no s_tuple (mem_bi 6 rfl)).1, (no s_tuple (mem_bi 6 rfl)).2.trans b7⟩
    · exact ⟨(no s_list (mem_bi 7 rfl)).1, (no s_list (mem_bi 7 rfl)).2.trans b8⟩
    · exact ⟨(no s_int (mem_bi 8 rfl)).1, (no s_int (mem_bi 8 rfl)).2.trans b9⟩
    · exact ⟨(no s_range (mem_bi 9 rfl)).1, (no s_range (mem_bi 9 rfl)).2.trans b10⟩
  · have q := nfind_some hx
    simp only [List.mem_cons, List.not_mem_nil, Prod.mk.injEq, or_false] at q
    rcases q with ⟨rfl, rfl⟩ | ⟨rfl, rfl⟩ | ⟨rfl, rfl⟩ | ⟨rfl, rfl⟩
    · exact ⟨(no s_int (mem_bi 8 rfl)).1, (no s_int (mem_bi 8 rfl)).2.trans b9⟩
    · exact ⟨(no s_str (mem_bi 10 rfl)).1, (no s_str (mem_bi 10 rfl)).2.trans b11⟩
    · exact ⟨(no s_tuple (mem_bi 6 rfl)).1, (no s_tuple (mem_bi 6 rfl)).2.trans b7⟩
    · exact ⟨(no s_bool (mem_bi 11 rfl)).1, (no s_bool (mem_bi 11 rfl)).2.trans b12⟩
  · exact ⟨(no s_isinstance (mem_bi 12 rfl)).1, (no s_isinstance (mem_bi 12 rfl)).2.trans b13⟩
  · exact ⟨(no s_super (mem_bi 13 rfl)).1, (no s_super (mem_bi 13 rfl)).2.trans b14⟩
noncomputable def nameChk (K : Frag) (P : Pg) (fa : List Addr) (c : Nat) (C : Addr) : List Str → Nat → Bool
  | [], _ => true
  | s :: l, i => (match P.meth c i with
    | none => (match findIn K (.ref C) s with
      | some none => true
      | _ => false)
    | some f => (match fa[f]?, findIn K (.ref C) s with
      | some a, some (some (.ref b)) => Nat.beq a b
      | _, _ => false)) && nameChk K P fa c C l (i + 1)
set_option tactic.hygienic true in
theorem nameChk_ok {K : Frag} {P : Pg} {fa : List Addr} {c : Nat} {C : Addr} : ∀ {l : List Str} {i : Nat}, nameChk K P fa c C l i = true → ∀ (x : Nat) (s : Str), l[x]? = some s →
    (P.meth c (i + x) = none → findIn K (.ref C) s = some none) ∧ ∀ f, P.meth c (i + x) = some f → ∃ a, fa[f]? = some a ∧ findIn K (.ref C) s = some (some (.ref a))
  | [], _, _, x, s, h => by simp at h
  | s0 :: l, i, h, x, s, hx => by
    unfold nameChk at h
    rw [Bool.and_eq_true] at h
    cases x with
    | zero =>
      simp at hx; subst hx
      have h1 := h.1
      refine ⟨fun q => ?_, fun f q => ?_⟩
      · rw [Nat.add_zero] at q; rw [q] at h1
        dsimp only at h1
        split at h1
        · assumption
        · (first | exact nosome h1 | exact nofalse h1 | cases h1)
      · rw [Nat.add_zero] at q; rw [q] at h1
        dsimp only at h1
        split at h1
        · rename_i a b e1 e2
          exact ⟨a, e1, by rw [Nat.eq_of_beq_eq_true h1]; exact e2⟩
        · (first | exact nosome h1 | exact nofalse h1 | cases h1)
    | succ x =>
      have := nameChk_ok h.2 x s (by simpa using hx)
      rw [show i + (x + 1) = i + 1 + x by omega]
      exact this
noncomputable def clsChk (K : Frag) (P : Pg) (fa : List Addr) (names : List Str) : List Addr → Nat → Bool
  | [], _ => true
  | C :: l, c => plainGet K C default && hasDictIn K C && plainOver K C && (findIn K (.ref C) "__setattr__" == some (some (.builtin "object.__setattr__"))) && nameChk K P fa c C names 0 &&
    (match P.ini[c]? with
      | none => true
      | some f => (match fa[f]?, findIn K (.ref C) "__init__" with
        | some a, some (some (.ref b)) => Nat.beq a b && makesIn K C && keepIn K (.ref C)
        | _, _ => false)) && clsChk K P fa names l (c + 1)
structure ClsOk (K : Frag) (P : Pg) (fa : List Addr) (names : List Str) (c : Nat) (C : Addr) : Prop where
  a : plainGet K C default = true
  b : hasDictIn K C = true
  d : plainOver K C = true
  e : findIn K (.ref C) "__setattr__" = some (some (.builtin "object.__setattr__"))
  n : nameChk K P fa c C names 0 = true
  i : ∀ f, P.ini[c]? = some f → ∃ a, fa[f]? = some a ∧ findIn K (.ref C) "__init__" = some (some (.ref a)) ∧ makesIn K C = true ∧ keepIn K (.ref C) = true
set_option tactic.hygienic true in
theorem clsChk_ok {K : Frag} {P : Pg} {fa : List Addr} {names : List Str} : ∀ {l : List Addr} {i : Nat}, clsChk K P fa names l i = true → ∀ (c : Nat) (C : Addr), l[c]? = some C → ClsOk K P fa names (i + c) C
  | [], _, _, x, s, h => by simp at h
  | C0 :: l, i, h, c, C, hc => by
    unfold clsChk at h
    simp only [Bool.and_eq_true, beq_iff_eq] at h
    obtain ⟨⟨⟨⟨⟨⟨h1, h2⟩, h3⟩, h4⟩, h5⟩, h6⟩, h7⟩ := h
    cases c with
    | zero =>
      simp at hc; subst hc
      refine ⟨h1, h2, h3, h4, h5, fun f hf => ?_⟩
      rw [Nat.add_zero] at hf
      rw [hf] at h6
      dsimp only at h6
      split at h6
      · rename_i a b e1 e2
        simp only [Bool.and_eq_true] at h6
        exact ⟨a, e1, by rw [Nat.eq_of_beq_eq_true h6.1.1]; exact e2, h6.1.2, h6.2⟩
      · (first | exact nosome h6 | exact nofalse h6 | cases h6)
    | succ c =>
      rw [show i + (c + 1) = i + 1 + c by omega]
      exact clsChk_ok h7 c C (by simpa using hc)
noncomputable def noDupS : List Str → Bool
  | [] => true
  | a :: l => !(l.any (strEq a)) && noDupS l
theorem noDupS_ok : ∀ {l : List Str}, noDupS l = true → ∀ (i j : Nat) (s : Str), l[i]? = some s → l[j]? = some s → i = j
  | [], _, i, j, s, h, _ => by simp at h
  | a :: l, hd, i, j, s, hi, hj => by
    unfold noDupS at hd
    simp only [Bool.and_eq_true, Bool.not_eq_true', List.any_eq_false] at hd
    have no : ∀ k, l[k]? = some a → False := fun k hk => hd.1 a (List.mem_of_getElem? hk) (strEq_self a)
    cases i with
    | zero =>
      simp at hi; subst hi
      cases j with
      | zero => rfl
      | succ j => exact (no j (by simpa using hj)).elim
    | succ i =>
      cases j with
      | zero => simp at hj; subst hj; exact (no i (by simpa using hi)).elim
      | succ j => exact congrArg (· + 1) (noDupS_ok hd.2 i j s (by simpa using hi) (by simpa using hj))
theorem kc_of {K : Frag} {base : Heap} {P : Pg} {fa : List Addr} {T : Tb} (X : K.In base) (h1 : clsChk K P fa T.names T.cls 0 = true) (h2 : (fa.all fun a => isFn K (.ref a) && keepIn K (.ref a)) = true) (h3 : noDupS T.names = true) : Kc K T P fa base := by
  have hc := fun c C h => by have := clsChk_ok h1 c C h; rw [Nat.zero_add] at this; exact this
  refine ⟨X, fun c C h => ⟨⟨(hc c C h).a, (hc c C h).b, (hc c C h).d⟩, (hc c C h).e⟩, fun c C x s h hx hm => ?_, fun c C x s f h hx hm => ?_, fun f a h => ?_, fun c C f h hi => (hc c C h).i f hi, noDupS_ok h3⟩
  · have := (nameChk_ok (hc c C h).n x s hx).1
    rw [Nat.zero_add] at this
    exact this hm
  · have := (nameChk_ok (hc c C h).n x s hx).2 f
    rw [Nat.zero_add] at this
    exact this hm
  · rw [List.all_eq_true] at h2
    have := h2 a (List.mem_of_getElem? h)
    rw [Bool.and_eq_true] at this
    exact this
theorem ints_of {h : Heap} {σ : Sg} : ∀ {l : List Int} {vs : List Value} {as : List Addr}, ReadsAll h vs (l.map PyData.int) as → VRs h σ (l.map .int) vs
  | [], vs, as, r => by cases r; rfl
  | a :: l, vs, as, r => by
    cases r with
    | cons r1 r2 =>
      (first | exact nosome r1 | exact nofalse r1 | cases r1)
      exact ⟨_, _, rfl, ⟨_, rfl⟩, ints_of r2⟩
end Mine
set_option linter.unusedSimpArgs false
namespace Mine
open PySem PySem.W PyProof.Rows PySem.MeetsSeq PySem.SeqAt PyProof.Rows.LCg
section
variable {prog : Program} {w : World} {T : Tb} {base : Heap} {P : Pg} {C : CallT} {A : Around} {nm nm1 : Nm} {env : Env} {s : Shared} {σ : Sg} {ρ : Rho} {H : Hp} {K : Frag} {fa : List Addr} {n : Nat} {G : Gt}
theorem Frm.weak {h : Heap} {ρ' : Rho} (F : Frm nm env base h σ ρ) (hw : ∀ (i : Nat) (v : V), ρ'[i]? = some (some v) → ρ[i]? = some (some v)) : Frm nm env base h σ ρ' := by
  refine ⟨F.kind, F.glob, F.blt, F.locN, F.locB, ?_, fun x i hx hc => ?_, F.apart, F.inj⟩
  · obtain ⟨m, h1, h2⟩ := F.ns
    exact ⟨m, h1, fun x i hx hk v hv => h2 x i hx hk v (hw i v hv)⟩
  · obtain ⟨c, h1, h2, h3, cv, h4, h5⟩ := F.cells x i hx hc
    exact ⟨c, h1, h2, h3, cv, h4, fun v hv => h5 v (hw i v hv)⟩
theorem wd_of {p : Program} {loose : List Str} {mg mb : Str → Option Value} (X : K.In base) (Tp : TopRead p loose mg mb base) (h1 : globChk K G fa T.cls = true) (h2 : clsChk K P fa T.names T.cls 0 = true)
    (h3 : (fa.all fun a => isFn K (.ref a) && keepIn K (.ref a)) = true) (h4 : noDupS T.names = true) (hn : T.names = G.names) (hs : G.sup = none) : Wd prog w K T base P fa G :=
  ⟨kc_of X h2 h3 h4, glob_of X Tp h1, hn, Tp.nolimit, hs⟩
noncomputable def FnFine (prog : Program) (w : World) (T : Tb) (base : Heap) (P : Pg) (fa : List Addr) (G : Gt) (a : Addr) (fn : Fn) : Prop :=
  (∃ fd hl body, FnAt base G a fd ∧ FnOk G hl fd fn body) ∨
  (∀ n C, CO prog w T base fa n C → ∀ A, Bud (n + 1) A → ∀ l H v H' σ s vals, evF P C fn l H = some (v, H') → Inv T w base σ H s.heap → VRs s.heap σ l vals →
        codeAny (model prog w) A (.call (.ref a) ⟨vals, []⟩) (fun r s' => ∃ val, r = .ok (.ret val) ∧ PE T w base σ s v H' val s') s)
theorem co_all (W : Wd prog w K T base P fa G) {fns : List Fn} (ok : ∀ (f : Nat) (a : Addr) (fn : Fn), fa[f]? = some a → fns[f]? = some fn → FnFine prog w T base P fa G a fn) : ∀ n, CO prog w T base fa n (runF P fns n)
  | 0 => co_zero
  | n + 1 => co_step W (co_all W ok n) fun f a fn ha hf => (ok f a fn ha hf).imp id fun h => h n _ (co_all W ok n)
theorem fine_bad {a : Addr} : FnFine prog w T base P fa G a ⟨[], 0, .bad⟩ := .inr fun n C _ A _ l H v H' σ s vals e => by
  unfold evF at e
  cases l <;> (first | exact nosome e | exact nofalse e | cases e)
theorem fine_all {fns : List Fn} : ∀ {fa' : List Addr} {fns' : List Fn}, (∀ p ∈ fa'.zip fns', FnFine prog w T base P fa G p.1 p.2) → ∀ (f : Nat) (a : Addr) (fn : Fn), fa'[f]? = some a → fns'[f]? = some fn → FnFine prog w T base P fa G a fn :=
  fun h f a fn ha hf => h (a, fn) (List.mem_of_getElem? (i := f) (by rw [List.getElem?_zip_eq_some]; exact ⟨ha, hf⟩))
theorem law_code2 (W : Wd prog w K T base P fa G) (hC : CO prog w T base fa n C) {a : Addr} {fd : FuncData} {fn : Fn} {hl : List Str} {body : List Stmt} (FA : FnAt base G a fd) (FO : FnOk G hl fd fn body) (hb : Bud (n + 1) A)
    {e1 : S} {eb : S} {v x : V} {vals : List Value} {H1 : Hp} {ρ ρ1 ρw ρ2 : Rho} (hbody : fn.body = .seq e1 eb) (hlen : 2 ≤ body.length)
    (hρ : setAll fn.params [x] (rho0 fn.nv) = some ρ) (r1 : evS P C e1 ρ [] = some (.next, ρ1, [.dict (feedD T.cells 0)])) (hw : ∀ (i : Nat) (v : V), ρw[i]? = some (some v) → ρ1[i]? = some (some v)) (r2 : evS P C eb ρw [.feed 0] = some (.ret v, ρ2, H1))
    (I : Inv T w base [] [] s.heap) (hv : VRs s.heap [] [x] vals) :
    codeAny (model prog w) A (.call (.ref a) ⟨vals, []⟩) (fun r s' => ∃ val, r = .ok (.ret val) ∧ PE T w base [] s v H1 val s') s := by
  obtain ⟨st1, rest, rfl, h1, h2⟩ : ∃ st1 rest, body = st1 :: rest ∧ cS G (ownNm fd.scope.names 0).length fd.scope (ownNm fd.scope.names 0) hl 100 st1 = some e1 ∧ cSs (cS G (ownNm fd.scope.names 0).length fd.scope (ownNm fd.scope.names 0) hl 100) rest = some eb := by
    have hc := FO.comp
    rw [hbody] at hc
    cases body with
    | nil => (first | exact nosome hc | exact nofalse hc | cases hc)
    | cons s l =>
      cases l with
      | nil => exact absurd hlen (by simp)
      | cons s2 l =>
        obtain ⟨a, b, ha, hb, hab⟩ := o2_some hc
        (first | exact nosome hab | exact nofalse hab | cases hab)
        exact ⟨s, s2 :: l, rfl, ha, hb⟩
  refine fn_enter W.lim FA FO hb hρ I hv ?_
  intro env s1 he st I1 F1 hown hB
  refine flow_tail ((cS_ok W hC hB 100 st1 e1 h1 env he ρ [] _ _ _ [] s1 r1 I1 F1).to ?_)
  rintro f s2 ⟨σ2, st2, I2, rfl, F2⟩
  have I3 := I2.swap (i := 0) (o := .dict (feedD T.cells 0)) (o' := .feed 0) rfl fun p => dict_feed
  refine ((cSs_ok (fun st ir h => cS_ok W hC hB 100 st ir h) h2 env he) ρw [.feed 0] _ _ _ σ2 s2 r2 I3 (F2.weak hw)).to ?_
  rintro f s3 ⟨σ3, st3, I4, val, rfl, hval⟩
  exact ⟨σ3, st.viaO (st2.trans st3 F2.owned) hown, I4, hval⟩
noncomputable def lenChk (K : Frag) (a : Addr) : Bool := match fdAt K a with
  | some fd => (match fd.body with
    | .stmts (_ :: _ :: _) => true
    | _ => false)
  | none => false
set_option tactic.hygienic true in
theorem entry_two {a : Addr} {fn : Fn} {hl : List Str} (X : K.In base) (h1 : fnChk K a = true) (h2 : (fdAt K a).bind (cFn G hl) = some fn) (h3 : lenChk K a = true) : ∃ fd hl body, FnAt base G a fd ∧ FnOk G hl fd fn body ∧ 2 ≤ body.length := by
  unfold fnChk at h1
  unfold lenChk at h3
  split at h1
  · rename_i fd hfd
    rw [hfd] at h2 h3
    obtain ⟨body, FO⟩ := fnOk_of (show cFn G hl fd = some fn from h2)
    simp only [Bool.and_eq_true, List.isEmpty_iff] at h1
    obtain ⟨⟨⟨⟨⟨q1, q2⟩, q3⟩, q4⟩, q5⟩, q6⟩ := h1
    refine ⟨fd, hl, body, ⟨fdAt_get X hfd, codeRec_of X q6, q1, Nat.eq_of_beq_eq_true q2, Nat.eq_of_beq_eq_true q3, noneV_iff q4, noneV_iff q5⟩, FO, ?_⟩
    dsimp only at h3
    rw [FO.bd] at h3
    split at h3
    · rename_i q; cases q; simp
    · (first | exact nosome h3 | exact nofalse h3 | cases h3)
  · (first | exact nosome h1 | exact nofalse h1 | cases h1)
noncomputable def DrawOk (cells : List Int) (dr : List Int → Nat → Int → Int) (k : Nat) (ds : List (Int × Int)) : Prop := ∀ (j : Nat) (wd d : Int), ds[j]? = some (wd, d) → wd ≠ 0 ∧ j < k ∧ d = dr cells j wd
set_option tactic.hygienic true in
theorem hnx_of (W : Wd prog w K T base P fa G) {a : Addr} {fd : FuncData} {fn : Fn} {hl : List Str} {body : List Stmt} (FA : FnAt base G a fd) (FO : FnOk G hl fd fn body) {dr : List Int → Nat → Int → Int} {B : Nat} {ds : List (Int × Int)} (hds : DrawOk T.cells dr B ds)
    {C : CallT} (hC : ∀ m, CO prog w T base fa m C)
    (hev : ∀ (i k : Nat) (wide : Int) (H : Hp), H[i]? = some (.dict (feedD T.cells k)) → wide ≠ 0 → k < B → evF P C fn [.ref i, .int wide] H = some (.int (dr T.cells k wide), H.set i (.dict (feedD T.cells (k + 1))))) :
    ∀ m A, Bud (m + 1) A → ∀ l H v H' σ s vals a', some a = some a' → nextR ds l H = some (v, H') → Inv T w base σ H s.heap → VRs s.heap σ l vals →
        codeAny (model prog w) A (.call (.ref a') ⟨vals, []⟩) (fun r s' => ∃ val, r = .ok (.ret val) ∧ PE T w base σ s v H' val s') s := by
  intro m A hb l H v H' σ s vals a' ha e I hv
  (first | exact nosome ha | exact nofalse ha | cases ha)
  unfold nextR at e
  split at e
  case h_2 => (first | exact nosome e | exact nofalse e | cases e)
  rename_i i wide
  split at e
  case h_2 => (first | exact nosome e | exact nofalse e | cases e)
  rename_i k hk
  split at e
  case h_2 => (first | exact nosome e | exact nofalse e | cases e)
  rename_i wd d hd
  split at e
  case isFalse => (first | exact nosome e | exact nofalse e | cases e)
  rename_i q
  rw [intEq_iff] at q
  subst q
  first | (replace e := s3 e; obtain ⟨h1', h2', h3'⟩ := e; subst h1'; cases h2'; (first | exact nosome h3' | exact nofalse h3' | cases h3')) | (replace e := s2 e; obtain ⟨rfl, rfl⟩ := e) | (first | exact nosome e | exact nofalse e | cases e)
  obtain ⟨h1, h2, rfl⟩ := hds k wide _ hd
  exact next_code W (hC m) FA FO hb hk (hev i k wide _ (List.getElem?_set_self (lt_of_get hk)) h1 h2) I hv
theorem inv_start {h : Heap} {p : Program} {loose : List Str} {mg mb : Str → Option Value} (Tp : TopRead p loose mg mb h) : Inv T w h [] [] h :=
  ⟨fun _ _ e => e, fun d ⟨x, hx⟩ => by (first | cases hx | simp at hx), (by obtain ⟨o, _, _, h1, _⟩ := Tp.g; exact ⟨_, h1⟩), rfl, fun i j x y d h1 => by simp at h1, fun i o p h1 => by simp at h1⟩
end
end Mine
set_option linter.unusedSimpArgs false
namespace Mine
open PySem PySem.W
noncomputable def fnx (q : E) (m : Int) : Fn := ⟨[0, 1], 5, (.seq (.asg 2 (.sub (.var 0) (.cst (.str s_spot))))  (.seq (.setI (.var 0) (.cst (.str s_spot)) (.bin .Add (.var 2) (.cst (.int 1))))  (.seq (.ite (.cmp .Lt (.var 2) (.bi .len (.cons (.sub (.var 0) (.cst (.str s_cells))) .nil))) (.ret (.bin .Mod (.bi .int (.cons (.sub (.sub (.var 0) (.cst (.str s_cells))) (.var 2)) .nil)) (.var 1))) .skip)  (.ret (.bin .Mod (.bin .Mod (.bi .int (.cons q .nil)) (.cst (.int m))) (.var 1))))))⟩
theorem feed_spot (l : List Int) (k : Nat) : dlook (.str s_spot) (feedD l k) = some (.int k) := rfl
theorem feed_cells (l : List Int) (k : Nat) : dlook (.str s_cells) (feedD l k) = some (.lst (l.map .int)) := rfl
theorem feed_put (l : List Int) (k : Nat) : dput (.str s_spot) (.int (k + 1 : Nat)) (feedD l k) = feedD l (k + 1) := rfl
theorem sub_spot {H : Hp} {i : Nat} {l : List Int} {k : Nat} (hi : H[i]? = some (.dict (feedD l k))) : subOp H (V.ref i) (.str s_spot) = some (.int k) := by
  unfold subOp; dsimp only; rw [hi]; rfl
theorem sub_cells {H : Hp} {i : Nat} {l : List Int} {k : Nat} (hi : H[i]? = some (.dict (feedD l k))) : subOp H (V.ref i) (.str s_cells) = some (.lst (l.map .int)) := by
  unfold subOp; dsimp only; rw [hi]; rfl
theorem set_spot {H : Hp} {i : Nat} {l : List Int} {k : Nat} (hi : H[i]? = some (.dict (feedD l k))) : setItem H (V.ref i) (.str s_spot) (.int ((k : Int) + 1)) = some (H.set i (.dict (feedD l (k + 1)))) := by
  unfold setItem; dsimp only; rw [hi]; rfl
theorem biop_len {H : Hp} {l : List V} (h : l.length ≤ cap) : biop H .len [.lst l] = some (.int l.length) := by
  show ifO (Nat.ble l.length cap) (V.int l.length) = _
  rw [Nat.ble_eq.mpr h]
  rfl
theorem biop_int {H : Hp} {a : Int} : biop H .int [.int a] = some (.int a) := rfl
theorem mod_ok {H : Hp} {a b : Int} (h : b ≠ 0) : binop H .Mod (.int a) (.int b) = some (.int (a.fmod b)) := by
  show ifO (!(intEq b 0)) (V.int (a.fmod b)) = _
  rw [intEq_eq]
  simp [h, ifO]
noncomputable abbrev rk (i : Nat) (wide : Int) (k : Nat) : Rho := [some (.ref i), some (.int wide), some (.int k), none, none]
noncomputable abbrev r0 (i : Nat) (wide : Int) : Rho := [some (.ref i), some (.int wide), none, none, none]
noncomputable def drq (q : List Int → Nat → Int) (m : Int) (l : List Int) (k : Nat) (wide : Int) : Int := match l[k]? with
  | some a => a.fmod wide
  | none => ((q l k).fmod m).fmod wide
theorem fnx_ev {P : Pg} {C : CallT} {q : E} {m : Int} {qv : List Int → Nat → Int} {l : List Int} {i k : Nat} {wide : Int} {H : Hp} (hl : l.length ≤ 64) (hi : H[i]? = some (.dict (feedD l k))) (hw : wide ≠ 0) (hk : k < 64) (hm : m ≠ 0)
    (hq : ∀ H' : Hp, H'[i]? = some (.dict (feedD l (k + 1))) → evE P C q (rk i wide k) H' = some (.int (qv l k), H')) :
    evF P C (fnx q m) [.ref i, .int wide] H = some (.int (drq qv m l k wide), H.set i (.dict (feedD l (k + 1)))) := by
  have hi' : (H.set i (.dict (feedD l (k + 1))))[i]? = some (.dict (feedD l (k + 1))) := List.getElem?_set_self (lt_of_get hi)
  have hlen : (l.map V.int).length ≤ cap := by rw [List.length_map]; unfold cap; omega
  have e1 : evE P C (.sub (.var 0) (.cst (.str s_spot))) (r0 i wide) H = some (.int k, H) := by
    show (subOp H (V.ref i) (.str s_spot)).map (fun v => (v, H)) = _
    rw [sub_spot hi]; rfl
  have e2 : evS P C (.setI (.var 0) (.cst (.str s_spot)) (.bin .Add (.var 2) (.cst (.int 1)))) (rk i wide k) H = some (.next, (rk i wide k), H.set i (.dict (feedD l (k + 1)))) := by
    show (match setItem H (V.ref i) (.str s_spot) (.int ((k : Int) + 1)) with
          | some H => some (R.next, (rk i wide k), H)
          | Option.none => Option.none) = _
    rw [set_spot hi]
  generalize hH' : H.set i (.dict (feedD l (k + 1))) = H' at hi' e2 ⊢
  have e3 : evE P C (.bi .len (.cons (.sub (.var 0) (.cst (.str s_cells))) .nil)) (rk i wide k) H' = some (.int l.length, H') := by
    show (match (match (subOp H' (V.ref i) (.str s_cells)).map (fun v => (v, H')) with | some (v, H) => some (V.lst [v], H) | Option.none => Option.none) with
      | some (.lst l, H) => (biop H .len l).map fun v => (v, H)
      | _ => Option.none) = _
    rw [sub_cells hi']
    simp only [Option.map_some, biop_len hlen, List.length_map]
  have e4 : evE P C (.cmp .Lt (.var 2) (.bi .len (.cons (.sub (.var 0) (.cst (.str s_cells))) .nil))) (rk i wide k) H' = some (.bool (decide ((k : Int) < l.length)), H') := by
    show (match evE P C (.bi .len (.cons (.sub (.var 0) (.cst (.str s_cells))) .nil)) (rk i wide k) H' with
      | some (y, H) => (cmpop H .Lt (.int k) y).map fun v => (V.bool v, H)
      | Option.none => Option.none) = _
    rw [e3]; rfl
  unfold evF fnx
  show (match evS P C (.seq (.asg 2 (.sub (.var 0) (.cst (.str s_spot)))) _) (r0 i wide) H with
    | some (.ret v, _, H) => some (v, H)
    | some (.next, _, H) => some (V.none, H)
    | _ => Option.none) = _
  simp only [evS, e1, List.set, s_skip, s_seq, s_asg, s_asgT, s_setA, s_setI, s_ex, s_ite, s_whl, s_forS, s_ret, s_retF, s_cont, s_bad]
  have e2' := e2
  simp only [evS, s_skip, s_seq, s_asg, s_asgT, s_setA, s_setI, s_ex, s_ite, s_whl, s_forS, s_ret, s_retF, s_cont, s_bad] at e2'
  rw [e2']
  simp only [e4]
  by_cases hlt : k < l.length
  · have : decide ((k : Int) < l.length) = true := by simp [hlt]
    rw [this]
    have hx : l[k]? = some l[k] := List.getElem?_eq_getElem hlt
    have e5 : evE P C (.bi .int (.cons (.sub (.sub (.var 0) (.cst (.str s_cells))) (.var 2)) .nil)) (rk i wide k) H' = some (.int l[k], H') := by
      show (match (match (match (subOp H' (V.ref i) (.str s_cells)).map (fun v => (v, H')) with | some (v, H) => (subOp H v (.int k)).map (fun v => (v, H)) | Option.none => Option.none) with | some (v, H) => some (V.lst [v], H) | Option.none => Option.none) with
        | some (.lst l, H) => (biop H .int l).map fun v => (v, H)
        | _ => Option.none) = _
      rw [sub_cells hi']
      have : subOp H' (.lst (l.map .int)) (.int k) = some (.int l[k]) := by
        have h1 : Nat.blt k (l.map V.int).length = true := by rw [List.length_map]; simpa [Nat.blt_eq] using hlt
        have h2 : Nat.blt k cap = true := by rw [Nat.blt_eq]; unfold cap; omega
        show (idx (l.map V.int).length (Int.ofNat k)).bind (fun j => (l.map V.int)[j]?) = _
        unfold idx
        simp only [h1, h2, Bool.and_self, if_true, Option.bind_some, List.getElem?_map, hx, Option.map_some]
      simp only [Option.map_some, this, biop_int]
    have e6 : evE P C (.bin .Mod (.bi .int (.cons (.sub (.sub (.var 0) (.cst (.str s_cells))) (.var 2)) .nil)) (.var 1)) (rk i wide k) H' = some (.int (l[k].fmod wide), H') := by
      show (match evE P C (.bi .int (.cons (.sub (.sub (.var 0) (.cst (.str s_cells))) (.var 2)) .nil)) (rk i wide k) H' with
        | some (x, H) => (binop H .Mod x (.int wide)).map (fun v => (v, H))
        | Option.none => Option.none) = _
      rw [e5]
      simp only [mod_ok hw, Option.map_some]
    simp only [e6, drq, hx]
  · have : decide ((k : Int) < l.length) = false := by simp [Nat.le_of_not_lt hlt]
    rw [this]
    have hx : l[k]? = none := List.getElem?_eq_none (Nat.le_of_not_lt hlt)
    have e6 : evE P C (.bin .Mod (.bin .Mod (.bi .int (.cons q .nil)) (.cst (.int m))) (.var 1)) (rk i wide k) H' = some (.int (((qv l k).fmod m).fmod wide), H') := by
      show (match (match (match (match evE P C q (rk i wide k) H' with | some (v, H) => some (V.lst [v], H) | Option.none => Option.none) with
        | some (.lst l, H) => (biop H .int l).map fun v => (v, H)
        | _ => Option.none) with | some (x, H) => (binop H .Mod x (.int m)).map (fun v => (v, H)) | Option.none => Option.none) with
        | some (x, H) => (binop H .Mod x (.int wide)).map (fun v => (v, H))
        | Option.none => Option.none) = _
      rw [hq H' hi']
      simp only [biop_int, Option.map_some, mod_ok hm, mod_ok hw]
    simp only [e6, drq, hx]
end Mine
namespace Mine
open PySem PySem.W PyProof.Rows
noncomputable def topRunT (tb : String → Option Builtin) (p : Program) (w : World) (n₀ : Nat) (ann : Option Value) : Nat → SharedT → Thread → Option SharedT
  | 0, _, _ => none
  | n + 1, s, t => match through t with
    | true => some s
    | false => match stepOk n₀ ann t with
      | false => none
      | true => match stepT (denote tb) p w s t with
        | some (s', t') => topRunT tb p w n₀ ann n s' t'
        | none => none
theorem topRun_ofT {tb : String → Option Builtin} {p : Program} {w : World} {n₀ : Nat} {ann : Option Value} : ∀ {n : Nat} {s s' : SharedT} {t : Thread}, topRunT tb p w n₀ ann n s t = some s' → topRun tb p w n₀ ann n s.abs t = some s'.abs
  | 0, _, _, _, h => by (first | exact nosome h | exact nofalse h | cases h)
  | n + 1, s, s', t, h => by
    unfold topRunT at h
    unfold topRun
    cases he : through t with
    | true => rw [he] at h; cases h; rfl
    | false =>
      rw [he] at h
      cases hk : stepOk n₀ ann t with
      | false => rw [hk] at h; (first | exact nosome h | exact nofalse h | cases h)
      | true =>
        rw [hk] at h
        cases hs : stepT (denote tb) p w s t with
        | none => rw [hs] at h; (first | exact nosome h | exact nofalse h | cases h)
        | some r => obtain ⟨s₂, t₂⟩ := r; rw [hs] at h; rw [stepT_spec hs]; exact topRun_ofT h
noncomputable def topRunQ (p : Program) (w : World) (n₀ : Nat) (ann : Option Value) : Nat → SharedT → Thread → Option SharedT
  | 0, _, _ => none
  | n + 1, s, t => match through t with
    | true => some s
    | false => match PySem.W.Fast.tw6613529449190102663 n₀ ann t with
      | false => none
      | true => match PySem.W.Fast.tw10156331382660048174 (PySem.W.Fast.tw11892475500146522536 PySem.W.Fast.tw14364793385576792824) p w s t with
        | some (s', t') => topRunQ p w n₀ ann n s' t'
        | none => none
theorem topRunQ_eq {p : Program} {w : World} {n₀ : Nat} {ann : Option Value} : ∀ (n : Nat) (s : SharedT) (t : Thread), topRunT treeTable p w n₀ ann n s t = topRunQ p w n₀ ann n s t
  | 0, _, _ => rfl
  | n + 1, s, t => by
    unfold topRunT topRunQ
    simp only [topRunQ_eq n]
    rw [PySem.W.Fast.te6613529449190102663, PySem.W.Fast.te10156331382660048174, PySem.W.Fast.te11892475500146522536, PySem.W.Fast.te14364793385576792824]
noncomputable def ofL : Nat → BT → List Obj → BT
  | _, t, [] => t
  | n, t, o :: l => ofL (n + 1) (t.ins n o) l
noncomputable def bootT (P : Params) : BT := ofL 0 .nil [boot_o_0 P, boot_o_1 P, boot_o_2 P, boot_o_3 P, boot_o_4 P, boot_o_5 P, boot_o_6 P, boot_o_7 P, boot_o_8 P, boot_o_9 P, boot_o_10 P]
noncomputable def bootS (w : World) (os : OsState) : SharedT := ⟨bootT w.params, 11, {}, #[], boot_drawn, boot_toks, os⟩
theorem bootS_abs (w : World) (os : OsState) : (bootS w os).abs = ⟨boot_heap w.params, { toList := [] }, boot_drawn, boot_toks, os⟩ := rfl
theorem h0_boot (w : World) : ((boot_heap w.params).isNs mainGlobals, (boot_heap w.params).nsMap mainGlobals "__annotations__") = (true, some (.ref 6)) := by kernel_rfl
theorem left_once {p q : Program} {loose : List Str} {Xt : Shared → Bool} {α : Type} {Yf : Shared → α} {Ya : World → α} {N : Nat} {g0 : Bool}
    (e : opening p = plainProg p.main.scope.names) (hN : Nat.ble 600 N = true) (f : ∀ s, fenceModules? p s = some s)
    (h : ∀ (w : World) (os : OsState), ∃ st, topRunQ p w 11 (some (.ref 6)) N (bootS w os) (topStub p) = some st ∧
      (staticsOk (importedModules p.main.body) (boot_heap w.params) st.abs.heap && namesBound p st.abs.heap && gensDone st.abs && laidKept (boot_heap w.params) st.abs.heap) = true ∧
      PySem.W.Fast.tw4187177175401517315 q loose (importedModules p.main.body) Xt g0 st.abs = openGood q loose ∧ Yf st.abs = Ya w) : LeftO p q loose Xt Yf Ya N g0 := fun w => by
  obtain ⟨⟨hp, gs, d, tk, os⟩, hs, hv⟩ := Option.map_eq_some_iff.mp (boot_open e hN f w)
  (first | exact nosome hv | exact nofalse hv | cases hv)
  obtain ⟨st, h1, h4, h5, h6⟩ := h w os
  have h3 := topRun_ofT ((topRunQ_eq N _ _).trans h1)
  rw [bootS_abs] at h3
  rw [← PySem.W.Fast.te4187177175401517315] at h5
  have a := Prod.mk.inj (h0_boot w)
  unfold openEnds
  rw [hs]
  show ((topFrom treeTable p w N ⟨boot_heap w.params, #[], boot_drawn, boot_toks, os⟩).map _) = _
  unfold topFrom
  dsimp only
  rw [a.1, a.2]
  show Option.map _ (Option.bind (topRun treeTable p w 11 (some (.ref 6)) N ⟨boot_heap w.params, { toList := [] }, boot_drawn, boot_toks, os⟩ (topStub p)) _) = _
  rw [h3, Option.bind_some]
  rw [h4]
  exact congrArg some (Prod.ext h5 h6)
noncomputable def objT (T : BT) (n a : Nat) : Option Obj := match Nat.blt a n with
  | true => (T.get a).bind alive
  | false => none
set_option tactic.hygienic true in
theorem objT_get {T : BT} {n a : Nat} {life : Life} {o : Obj} (h : objT T n a = some o) : (absHeap T n life).get? a = some o := by
  unfold objT at h
  split at h
  · rename_i q
    obtain ⟨x, g, h2⟩ := Option.bind_eq_some_iff.mp h
    rw [abs_get (Nat.le_of_ble_eq_true q) g]
    exact h2
  · (first | exact nosome h | exact nofalse h | cases h)
noncomputable def fragT (T : BT) (n : Nat) (as : List Addr) : Frag := as.filterMap fun a => (objT T n a).map fun o => (a, o)
set_option tactic.hygienic true in
theorem fragT_in (T : BT) (n : Nat) (life : Life) : ∀ as : List Addr, (fragT T n as).In (absHeap T n life)
  | [], a, o, e => by (first | exact nosome e | exact nofalse e | cases e)
  | b :: as, a, o, e => by
    unfold fragT at e
    rw [List.filterMap_cons] at e
    cases q : objT T n b with
    | none => rw [q] at e; exact fragT_in T n life as a o e
    | some x =>
      rw [q] at e
      simp only [Option.map_some, List.lookup] at e
      split at e
      · rename_i z; cases e; rw [beq_iff_eq.mp z]; exact objT_get q
      · exact fragT_in T n life as a o e
end Mine
namespace Mine
open PySem PySem.W PyProof.Rows PySem.MeetsSeq PySem.SeqAt PyProof.Rows.LCg
noncomputable section
noncomputable abbrev TabE := List Str ⊕ Option Fn
noncomputable def cOf (K : Frag) (G : Gt) (p : Addr × TabE) : Option Fn := match p.2 with
  | .inl hl => (fdAt K p.1).bind (cFn G hl)
  | .inr (some fn) => some fn
  | .inr none => some ⟨[], 0, .bad⟩
noncomputable def okOf (K : Frag) (p : Addr × TabE) : Bool := match p.2 with
  | .inl _ => fnChk K p.1
  | .inr _ => true
noncomputable def codeOf (T : BT) (n a : Nat) : Nat := match objT T n a with
  | some ⟨_, _, .func fd, _⟩ => (match fd.code with
    | .ref c => c
    | _ => a)
  | _ => a
noncomputable def KA (T : BT) (n a : Nat) : Frag := fragT T n [a, codeOf T n a]
noncomputable def okA (T : BT) (n : Nat) (p : Addr × TabE) : Bool := okOf (KA T n p.1) p
noncomputable def cA (T : BT) (n : Nat) (G : Gt) (p : Addr × TabE) : Option Fn := cOf (KA T n p.1) G p
inductive TabAt (base : Heap) (G : Gt) : List (Addr × TabE) → List Fn → Prop
  | nil : TabAt base G [] []
  | cons {K : Frag} {p : Addr × TabE} {fn : Fn} {tab : List (Addr × TabE)} {fns : List Fn} : K.In base → okOf K p = true → cOf K G p = some fn → TabAt base G tab fns → TabAt base G (p :: tab) (fn :: fns)
theorem TabAt.of {T : BT} {n : Nat} {life : Life} {G : Gt} : ∀ {tab : List (Addr × TabE)} {fns : List Fn}, tab.all (okA T n) = true → tab.map (cA T n G) = fns.map some → TabAt (absHeap T n life) G tab fns
  | [], [], _, _ => .nil
  | [], _ :: _, _, h => by (first | exact nosome h | exact nofalse h | cases h)
  | _ :: _, [], _, h => by (first | exact nosome h | exact nofalse h | cases h)
  | p :: tab, fn :: fns, h1, h2 => by
    rw [List.all_cons, Bool.and_eq_true] at h1
    rw [List.map_cons, List.map_cons, List.cons.injEq] at h2
    exact .cons (fragT_in _ _ _ _) h1.1 h2.1 (TabAt.of h1.2 h2.2)
theorem TabAt.append {base : Heap} {G : Gt} {t1 : List (Addr × TabE)} {f1 : List Fn} (h1 : TabAt base G t1 f1) {t2 : List (Addr × TabE)} {f2 : List Fn} (h2 : TabAt base G t2 f2) : TabAt base G (t1 ++ t2) (f1 ++ f2) := by
  induction h1 with
  | nil => exact h2
  | cons a b c _ ih => exact .cons a b c ih
theorem TabAt.keeps {base base' : Heap} {G : Gt} {tab : List (Addr × TabE)} {fns : List Fn} (h : TabAt base G tab fns) (k : ∀ b o, base.get? b = some o → base'.get? b = some o) : TabAt base' G tab fns := by
  induction h with
  | nil => exact .nil
  | cons a b c _ ih => exact .cons (a.keeps k) b c ih
theorem TabAt.at {base : Heap} {G : Gt} {tab : List (Addr × TabE)} {fns : List Fn} (h : TabAt base G tab fns) : ∀ {f : Nat} {p : Addr × TabE}, tab[f]? = some p → ∀ {fn : Fn}, fns[f]? = some fn → ∃ K : Frag, K.In base ∧ okOf K p = true ∧ cOf K G p = some fn := by
  induction h with
  | nil => intro f p hp; simp at hp
  | cons a b c _ ih =>
    intro f p hp fn hf
    cases f with
    | zero => simp at hp hf; subst hp hf; exact ⟨_, a, b, c⟩
    | succ f => exact ih (by simpa using hp) (by simpa using hf)
theorem TabAt.entry {base : Heap} {G : Gt} {tab : List (Addr × TabE)} {fns : List Fn} (h : TabAt base G tab fns) {f : Nat} {a : Addr} {hl : List Str} (hp : tab[f]? = some (a, .inl hl)) {fn : Fn} (hf : fns[f]? = some fn) :
    ∃ fd hl body, FnAt base G a fd ∧ FnOk G hl fd fn body := by
  obtain ⟨K, X, h1, h2⟩ := h.at hp hf
  exact entry_ok X h1 h2
set_option tactic.hygienic true in
theorem TabAt.entry2 {K : Frag} {base : Heap} {G : Gt} {tab : List (Addr × TabE)} {fns : List Fn} (h : TabAt base G tab fns) (X : K.In base) {f : Nat} {a : Addr} {hl : List Str} (hp : tab[f]? = some (a, .inl hl)) {fn : Fn} (hf : fns[f]? = some fn) (h3 : lenChk K a = true) :
    ∃ fd hl body, FnAt base G a fd ∧ FnOk G hl fd fn body ∧ 2 ≤ body.length := by
  obtain ⟨fd, hl, body, FA, FO⟩ := h.entry hp hf
  refine ⟨fd, hl, body, FA, FO, ?_⟩
  unfold lenChk at h3
  split at h3
  · rename_i fd' hfd
    obtain ⟨o, ho, hd⟩ := fdAt_get X hfd
    obtain ⟨o', ho', hd'⟩ := FA.at'
    rw [ho] at ho'
    (first | exact nosome ho' | exact nofalse ho' | cases ho')
    rw [hd] at hd'
    (first | exact nosome hd' | exact nofalse hd' | cases hd')
    rw [FO.bd] at h3
    split at h3
    · rename_i q; cases q; simp
    · (first | exact nosome h3 | exact nofalse h3 | cases h3)
  · (first | exact nosome h3 | exact nofalse h3 | cases h3)
section
variable {prog : Program} {w : World} {T : Tb} {base : Heap} {P : Pg} {C : CallT} {A : Around} {s : Shared} {σ : Sg} {H : Hp} {K : Frag} {n : Nat} {G : Gt}
noncomputable def inrs (tab : List (Addr × TabE)) : List (Addr × Fn) := tab.filterMap fun p => match p.2 with
  | .inl _ => none
  | .inr none => none
  | .inr (some fn) => some (p.1, fn)
theorem TabAt.fine {tab : List (Addr × TabE)} {fns : List Fn} (h : TabAt base G tab fns) {fa : List Addr} (hfa : fa = tab.map (·.1)) {sp : List (Addr × Fn)} (hsp : inrs tab = sp)
    (hs : ∀ p ∈ sp, FnFine prog w T base P fa G p.1 p.2) : ∀ (f : Nat) (a : Addr) (fn : Fn), fa[f]? = some a → fns[f]? = some fn → FnFine prog w T base P fa G a fn := by
  intro f a fn ha hf
  rw [hfa, List.getElem?_map] at ha
  obtain ⟨⟨a', e⟩, hp, rfl⟩ := Option.map_eq_some_iff.mp ha
  cases e with
  | inl hl => exact .inl (h.entry hp hf)
  | inr g =>
    obtain ⟨K, _, _, h1⟩ := h.at hp hf
    cases g with
    | none => cases h1; exact fine_bad
    | some g =>
    have h2 : g = fn := Option.some.inj h1
    subst h2
    exact hs (a', g) (hsp ▸ List.mem_filterMap.mpr ⟨_, List.mem_of_getElem? hp, rfl⟩)
end
noncomputable def eCall : Expr → Option (Expr × List Expr × List Keyword × Pos)
  | .Call f as ks p => some (f, as, ks, p)
  | _ => none
theorem eCall_ok {e : Expr} {f : Expr} {as : List Expr} {ks : List Keyword} {p : Pos} (h : eCall e = some (f, as, ks, p)) : e = .Call f as ks p := by
  unfold eCall at h
  split at h
  · cases h; rfl
  · (first | exact nosome h | exact nofalse h | cases h)
noncomputable def eAttr : Expr → Option (Expr × Str × Pos)
  | .Attribute e x p => some (e, x, p)
  | _ => none
theorem eAttr_ok {e f : Expr} {x : Str} {p : Pos} (h : eAttr e = some (f, x, p)) : e = .Attribute f x p := by
  unfold eAttr at h
  split at h
  · cases h; rfl
  · (first | exact nosome h | exact nofalse h | cases h)
noncomputable def eName : Expr → Option (Str × Pos)
  | .Name x p => some (x, p)
  | _ => none
theorem eName_ok {e : Expr} {x : Str} {p : Pos} (h : eName e = some (x, p)) : e = .Name x p := by
  unfold eName at h
  split at h
  · cases h; rfl
  · (first | exact nosome h | exact nofalse h | cases h)
noncomputable def sExpr : Stmt → Option (Expr × Pos)
  | .Expr e p => some (e, p)
  | _ => none
theorem sExpr_ok {st : Stmt} {e : Expr} {p : Pos} (h : sExpr st = some (e, p)) : st = .Expr e p := by
  unfold sExpr at h
  split at h
  · cases h; rfl
  · (first | exact nosome h | exact nofalse h | cases h)
noncomputable def noArgs (as : List Expr) (ks : List Keyword) : Bool := as.isEmpty && ks.isEmpty
theorem noArgs_ok {as : List Expr} {ks : List Keyword} (h : noArgs as ks = true) : as = [] ∧ ks = [] := by
  unfold noArgs at h
  simpa using h
noncomputable def isSup (st : Stmt) : Option (Pos × Pos × Pos × Pos × Pos) := match sExpr st with
  | some (e, p4) => match eCall e with
    | some (f, as, ks, p3) => match eAttr f with
      | some (g, x, p2) => match eCall g with
        | some (h, as', ks', p1) => match eName h with
          | some (y, p0) => if noArgs as ks && noArgs as' ks' && strEq x ⟨#[95,95,105,110,105,116,95,95]⟩ && strEq y ⟨#[115,117,112,101,114]⟩ then some (p0, p1, p2, p3, p4) else none
          | none => none
        | none => none
      | none => none
    | none => none
  | none => none
set_option tactic.hygienic true in
theorem isSup_ok {st : Stmt} {p0 p1 p2 p3 p4 : Pos} (h : isSup st = some (p0, p1, p2, p3, p4)) : st = .Expr (.Call (.Attribute (.Call (.Name "super" p0) [] [] p1) "__init__" p2) [] [] p3) p4 := by
  unfold isSup at h
  split at h
  case h_2 => (first | exact nosome h | exact nofalse h | cases h)
  rename_i e p4 h1
  split at h
  case h_2 => (first | exact nosome h | exact nofalse h | cases h)
  rename_i f as ks p3 h2
  split at h
  case h_2 => (first | exact nosome h | exact nofalse h | cases h)
  rename_i g x p2 h3
  split at h
  case h_2 => (first | exact nosome h | exact nofalse h | cases h)
  rename_i hh as' ks' p1 h4
  split at h
  case h_2 => (first | exact nosome h | exact nofalse h | cases h)
  rename_i y p0 h5
  split at h
  case isFalse => (first | exact nosome h | exact nofalse h | cases h)
  rename_i q
  simp only [Bool.and_eq_true] at q
  obtain ⟨⟨⟨q1, q2⟩, q3⟩, q4⟩ := q
  (first | exact nosome h | exact nofalse h | cases h)
  obtain ⟨rfl, rfl⟩ := noArgs_ok q1
  obtain ⟨rfl, rfl⟩ := noArgs_ok q2
  rw [strEq_iff] at q3 q4
  rw [sExpr_ok h1, eCall_ok h2, eAttr_ok h3, eCall_ok h4, eName_ok h5, q3, q4]
  have e1 : (⟨#[95,95,105,110,105,116,95,95]⟩ : Str) = "__init__" := by decide +kernel
  have e2 : (⟨#[115,117,112,101,114]⟩ : Str) = "super" := by decide +kernel
  rw [e1, e2]
noncomputable def oneArg : List Arg → Option (Str × Option Expr × Pos)
  | [⟨x, an, ps⟩] => some (x, an, ps)
  | _ => none
noncomputable def onePar (p : Arguments) : Option (Str × Option Expr × Pos) := match p.posonlyargs.isEmpty && p.vararg.isNone && p.kwonlyargs.isEmpty && p.kw_defaults.isEmpty && p.kwarg.isNone && p.defaults.isEmpty with
  | true => oneArg p.args
  | false => none
set_option tactic.hygienic true in
theorem onePar_ok {p : Arguments} {x : Str} {an : Option Expr} {ps : Pos} (h : onePar p = some (x, an, ps)) : p = { posonlyargs := [], args := [⟨x, an, ps⟩], vararg := none, kwonlyargs := [], kw_defaults := [], kwarg := none, defaults := [] } := by
  unfold onePar at h
  split at h
  case h_2 => (first | exact nosome h | exact nofalse h | cases h)
  rename_i q
  simp only [Bool.and_eq_true, List.isEmpty_iff, Option.isNone_iff_eq_none] at q
  obtain ⟨⟨⟨⟨⟨q1, q2⟩, q3⟩, q4⟩, q5⟩, q6⟩ := q
  obtain ⟨a1, a2, a3, a4, a5, a6, a7⟩ := p
  dsimp only at q1 q2 q3 q4 q5 q6 h
  subst q1 q2 q3 q4 q5 q6
  match a2, h with
  | [⟨_, _, _⟩], h => cases h; rfl
noncomputable def kStr (o : Option (Option Value)) : Bool := match o with
  | some none => true
  | _ => false
theorem kStr_ok {o : Option (Option Value)} (h : kStr o = true) : o = some none := by
  unfold kStr at h
  split at h
  · rfl
  · (first | exact nosome h | exact nofalse h | cases h)
noncomputable def kRef (o : Option (Option Value)) (b : Addr) : Bool := match o with
  | some (some (.ref a)) => Nat.beq a b
  | _ => false
theorem kRef_ok {o : Option (Option Value)} {b : Addr} (h : kRef o b = true) : o = some (some (.ref b)) := by
  unfold kRef at h
  split at h
  · rw [Nat.eq_of_beq_eq_true h]
  · (first | exact nosome h | exact nofalse h | cases h)
noncomputable def fileIs (o : Option Value) (f : Str) : Bool := match o with
  | some (.str file _) => strEq file f
  | _ => false
theorem fileIs_ok {o : Option Value} {f : Str} (h : fileIs o f = true) : ∃ t, o = some (.str f t) := by
  unfold fileIs at h
  split at h
  · rw [strEq_iff] at h; subst h; exact ⟨_, rfl⟩
  · (first | exact nosome h | exact nofalse h | cases h)
noncomputable def codeFile (K : Frag) (cda : Addr) (f : Str) : Bool := match K.lookup cda with
  | some ⟨_, _, .fields vs, _⟩ => fileIs (vs[2]?) f
  | _ => false
set_option tactic.hygienic true in
theorem codeFile_ok {K : Frag} {cda : Addr} {f : Str} (h : codeFile K cda f = true) : ∃ ccl cdd vs ccs tf, K.lookup cda = some ⟨ccl, cdd, .fields vs, ccs⟩ ∧ vs[2]? = some (.str f tf) := by
  unfold codeFile at h
  split at h
  case h_2 => (first | exact nosome h | exact nofalse h | cases h)
  rename_i q
  obtain ⟨t, q2⟩ := fileIs_ok h
  exact ⟨_, _, _, _, _, q, q2⟩
noncomputable def cellIs (K : Frag) (cc D : Addr) : Bool := match K.lookup cc with
  | some ⟨_, _, .cell (some (.ref a)), _⟩ => Nat.beq a D
  | _ => false
set_option tactic.hygienic true in
theorem cellIs_ok {K : Frag} {cc D : Addr} (h : cellIs K cc D = true) : ∃ cl cld csl, K.lookup cc = some ⟨cl, cld, .cell (some (.ref D)), csl⟩ := by
  unfold cellIs at h
  split at h
  case h_2 => (first | exact nosome h | exact nofalse h | cases h)
  rename_i q
  rw [← Nat.eq_of_beq_eq_true h]
  exact ⟨_, _, _, q⟩
noncomputable def initScope (sc : Scope) (x0 : Str) : Bool := okFnScope sc && sc.names.lookup ("super" : Str) == some .globalImplicit && sc.names.lookup ("__class__" : Str) == some .free && sc.names.lookup x0 == some .local && sc.names.all (fun x => x.2 != .cell) &&
  (nfind x0 (ownNm sc.names 0) == some 0) && (ownNm sc.names 0).all fun p => strEq p.1 x0
noncomputable def initHeap (K : Frag) (D fB cda cc : Addr) (qual : Str) : Bool := codeIn K (.ref cda) qual && codeFile K cda "/claim/cut.py" && cellIs K cc D && (clsIn K D).isSome && mroIn K D (.ref D) == some true && kStr (nsIn K mainGlobals "super") && kStr (nsIn K cStatics "thirdparty.any") &&
  kRef (ks_superIn K D D "__init__") fB && isFn K (.ref fB) && fnIn K fB
noncomputable def cellOf : List (Str × Addr) → Option Addr
  | [(cn, cc)] => match strEq cn "__class__" with
    | true => some cc
    | false => none
  | _ => none
noncomputable def twoSt : FuncBody → Option (Stmt × Stmt)
  | .stmts [a, b] => some (a, b)
  | _ => none
noncomputable def addrOf : Value → Option Addr
  | .ref a => some a
  | _ => none
noncomputable def fdOk (fd : FuncData) : Bool := Nat.beq fd.globals mainGlobals && Nat.beq fd.builtins builtinsNs && noneV fd.defaults && noneV fd.kwdefaults
noncomputable def initRest (K : Frag) (G : Gt) (D fB : Addr) (fB' nv : Nat) (fd : FuncData) (cda cc : Addr) (x0 : Str) (p2 p3 : Pos) (st2 : Stmt) : Option Fn := match (p2.endLine == p3.line) && initScope fd.scope x0 && initHeap K D fB cda cc fd.qualname with
  | true => (cS G (ownNm fd.scope.names 0).length fd.scope (ownNm fd.scope.names 0) [] 100 st2).map fun rest => ⟨[0], nv + 1, .seq (.ex (.sup fB')) rest⟩
  | false => none
noncomputable def initFd (K : Frag) (G : Gt) (D fB : Addr) (fB' nv : Nat) (fd : FuncData) : Option Fn := match fdOk fd with
  | true => match cellOf fd.closure, addrOf fd.code with
    | some cc, some cda => match twoSt fd.body with
      | some (st1, st2) => match onePar fd.params, isSup st1 with
        | some (x0, _, _), some (_, _, p2, p3, _) => initRest K G D fB fB' nv fd cda cc x0 p2 p3 st2
        | _, _ => none
      | none => none
    | _, _ => none
  | false => none
noncomputable def initFn (K : Frag) (G : Gt) (D fB : Addr) (fB' nv : Nat) (a : Addr) : Option Fn := match fdAt K a with
  | some fd => initFd K G D fB fB' nv fd
  | none => none
set_option tactic.hygienic true in
theorem fdAt_look {K : Frag} {a : Addr} {fd : FuncData} (h : fdAt K a = some fd) : ∃ oc od osl, K.lookup a = some ⟨oc, od, .func fd, osl⟩ := by
  unfold fdAt at h
  split at h
  case h_2 => (first | exact nosome h | exact nofalse h | cases h)
  rename_i o q
  obtain ⟨oc, od, dt, osl⟩ := o
  cases dt <;> (first | exact nosome h | exact nofalse h | cases h)
  exact ⟨_, _, _, q⟩
set_option tactic.hygienic true in
theorem cellOf_ok {l : List (Str × Addr)} {cc : Addr} (h : cellOf l = some cc) : l = [(("__class__" : Str), cc)] := by
  unfold cellOf at h
  split at h
  case h_2 => (first | exact nosome h | exact nofalse h | cases h)
  split at h
  case h_2 => (first | exact nosome h | exact nofalse h | cases h)
  rename_i q
  rw [strEq_iff] at q
  (first | exact nosome h | exact nofalse h | cases h)
  rw [q]
theorem twoSt_ok {b : FuncBody} {x y : Stmt} (h : twoSt b = some (x, y)) : b = .stmts [x, y] := by
  unfold twoSt at h
  split at h
  · cases h; rfl
  · (first | exact nosome h | exact nofalse h | cases h)
theorem addrOf_ok {v : Value} {a : Addr} (h : addrOf v = some a) : v = .ref a := by
  unfold addrOf at h
  split at h
  · cases h; rfl
  · (first | exact nosome h | exact nofalse h | cases h)
theorem ks_of {fd : FuncData} {x y : Stmt} {cda cc : Addr} (h1 : fdOk fd = true) (h2 : fd.closure = [(("__class__" : Str), cc)]) (h3 : fd.code = .ref cda) (h4 : fd.body = .stmts [x, y]) :
    ksFn fd.name fd.qualname fd.params [x, y] fd.scope .none .none fd.doc fd.pyModule fd.annotations (.ref cda) fd.closureTuple cc = fd := by
  obtain ⟨f1, f2, f3, f4, f5, f6, f7, f8, f9, f10, f11, f12, f13, f14, f15⟩ := fd
  dsimp only at h2 h3 h4
  subst h2 h3 h4
  unfold fdOk at h1
  simp only [Bool.and_eq_true] at h1
  obtain ⟨⟨⟨q1, q2⟩, q3⟩, q4⟩ := h1
  have q1 := Nat.eq_of_beq_eq_true q1
  have q2 := Nat.eq_of_beq_eq_true q2
  have q3 := noneV_iff q3
  have q4 := noneV_iff q4
  subst q1 q2 q3 q4
  rfl
end
section
variable {prog : Program} {w : World} {T : Tb} {base : Heap} {P : Pg} {A : Around} {s : Shared} {σ : Sg} {H : Hp} {K : Frag} {fa : List Addr} {n : Nat} {G : Gt}
theorem sup_eval {p0 p1 p2 p3 : Pos} (h : p2.endLine = p3.line) (env : Env) : eval (.Call (.Attribute (.Call (.Name "super" p0) [] [] p1) "__init__" p2) [] [] p3) env = (do
      let ov ← attributeBase (.Call (.Name "super" p0) [] [] p1) "__init__" env (eval (.Call (.Name "super" p0) [] [] p1) env)
      standAt p2.atName
      let (f, first) ← holding [ov] (getMethod ov "__init__" (do return (← importBound (.Call (.Name "super" p0) [] [] p1) env).getD true))
      callWith p3 f first (backTo p3 (starEach [] env)) []) := by
  have e : methodCallPos true (.Call (.Name "super" p0) [] [] p1) env p2 p3 = pure p3 := by
    unfold methodCallPos
    rw [h]
    simp
  show (do
      let ov ← attributeBase (.Call (.Name "super" p0) [] [] p1) "__init__" env (eval (.Call (.Name "super" p0) [] [] p1) env)
      standAt p2.atName
      let (f, first) ← holding [ov] (getMethod ov "__init__" (do return (← importBound (.Call (.Name "super" p0) [] [] p1) env).getD true))
      let callPos ← methodCallPos true (.Call (.Name "super" p0) [] [] p1) env p2 p3
      callWith callPos f first (backTo p3 (starEach [] env)) []) = _
  rw [e]
  rfl
set_option tactic.hygienic true in
theorem init_fine {p : Program} {loose : List Str} {mean : ExcName → Option Value} {mg mb : Str → Option Value} (W : Wd prog w K T base P fa G) (Tp : Top p loose mean mg mb base) {D fB : Addr} {fB' nv : Nat} {a : Addr} {fn : Fn} (h : initFn K G D fB fB' nv a = some fn)
    (hTD : T.cls[0]? = some D) (hfa : fa[fB']? = some fB) (hfile : prog.main.file = ("/claim/cut.py" : String)) (htop : (prog.main.scope.names.lookup ("super" : Str)).isSome = false) : FnFine prog w T base P fa G a fn := by
  unfold initFn at h
  split at h
  case h_2 => (first | exact nosome h | exact nofalse h | cases h)
  rename_i fd hfd
  unfold initFd at h
  split at h
  case h_2 => (first | exact nosome h | exact nofalse h | cases h)
  rename_i ok1
  split at h
  case h_2 => (first | exact nosome h | exact nofalse h | cases h)
  rename_i cc cda e1 e2
  split at h
  case h_2 => (first | exact nosome h | exact nofalse h | cases h)
  rename_i st1 st2 e3
  split at h
  case h_2 => (first | exact nosome h | exact nofalse h | cases h)
  rename_i x0 an0 ap p0 p1 p2 p3 p4 h1 h2
  unfold initRest at h
  split at h
  case h_2 => (first | exact nosome h | exact nofalse h | cases h)
  rename_i q
  obtain ⟨rest, hrest, rfl⟩ := Option.map_eq_some_iff.mp h
  have hst := isSup_ok h2
  have hpar := onePar_ok h1
  subst hst
  obtain ⟨oc, od, osl, hf⟩ := fdAt_look hfd
  rw [← ks_of ok1 (cellOf_ok e1) (addrOf_ok e2) (twoSt_ok e3)] at hf
  unfold initScope initHeap at q
  simp only [Bool.and_eq_true, beq_iff_eq, strEq_iff, List.all_eq_true, bne_iff_ne, ne_eq] at q
  obtain ⟨⟨gp, ⟨⟨⟨⟨⟨⟨s1, s2⟩, s3⟩, s4⟩, s5⟩, s6⟩, s7⟩⟩, ⟨⟨⟨⟨⟨⟨⟨⟨⟨k1, k2⟩, k3⟩, k4⟩, k5⟩, k6⟩, k7⟩, k8⟩, k9⟩, k10⟩⟩ := q
  obtain ⟨ccl, cdd, vs, ccs, tf, c1, c2⟩ := codeFile_ok k2
  obtain ⟨cl, cld, csl, c3⟩ := cellIs_ok k3
  obtain ⟨cdD, c4⟩ := Option.isSome_iff_exists.mp k4
  refine .inr fun n C hC A hb l H v H' σ s vals e I hv => ?_
  exact init_code (hl := []) W hC Tp hpar hf c1 k1 c2 (by rw [hfile]; exact beq_self_eq_true _) c3 c4 hTD k5 (kStr_ok k6) s1 s2 s3 s4 s5 s6 (fun x i h => s7 _ (nfind_mem h)) htop boot_all.2.2.2.2.2.2.2.2.2.2.2.2.2
    (kStr_ok k7) (kRef_ok k8) (beq_iff_eq.mp k9) k10 hfa (sup_eval gp) hrest hb e I hv
end
end Mine
namespace Mine
open PySem PySem.W PyProof.Rows
noncomputable section
noncomputable def fbad : Fn := ⟨[], 0, .bad⟩
noncomputable def z_0 : Str := ⟨#[97,112,112,101,110,100]⟩
noncomputable def z_1 : Str := ⟨#[95,95,105,110,105,116,95,95]⟩
noncomputable def z_2 : Str := ⟨#[119,104,97,116]⟩
noncomputable def z_3 : Str := ⟨#[115,111,114,116,95,110,97,109,101,115]⟩
noncomputable def z_4 : Str := ⟨#[115,111,114,116,95,119,105,100,116,104,115]⟩
noncomputable def z_5 : Str := ⟨#[102,117,110,95,110,97,109,101,115]⟩
noncomputable def z_6 : Str := ⟨#[102,117,110,95,97,114,103,115]⟩
noncomputable def z_7 : Str := ⟨#[102,117,110,95,114,101,115,117,108,116,115]⟩
noncomputable def z_8 : Str := ⟨#[102,114,101,115,104,95,99,111,117,110,116]⟩
noncomputable def z_9 : Str := ⟨#[116,101,114,109,95,111,112,115]⟩
noncomputable def z_10 : Str := ⟨#[116,101,114,109,95,97,114,103,115]⟩
noncomputable def z_11 : Str := ⟨#[116,101,114,109,95,115,111,114,116,115]⟩
noncomputable def z_12 : Str := ⟨#[116,101,114,109,95,100,97,116,97,115]⟩
noncomputable def z_13 : Str := ⟨#[110,117,109,98,101,114,115]⟩
noncomputable def z_14 : Str := ⟨#[116,114,117,101,95,110,117,109,98,101,114]⟩
noncomputable def z_15 : Str := ⟨#[109,97,107,101]⟩
noncomputable def z_16 : Str := ⟨#[102,97,108,115,101,95,110,117,109,98,101,114]⟩
noncomputable def z_17 : Str := ⟨#[100,101,99,108,97,114,101,95,102,117,110]⟩
noncomputable def z_18 : Str := ⟨#[103,101,116]⟩
noncomputable def z_19 : Str := ⟨#[119,97,110,116]⟩
noncomputable def z_20 : Str := ⟨#[119,97,110,116,95,97,108,108]⟩
noncomputable def z_21 : Str := ⟨#[101,113]⟩
noncomputable def z_22 : Str := ⟨#[105,115,95,110,117,109,98,101,114,95,115,111,114,116]⟩
noncomputable def z_23 : Str := ⟨#[119,97,110,116,95,110,117,109,98,101,114]⟩
noncomputable def z_24 : Str := ⟨#[110,117,109]⟩
noncomputable def z_25 : Str := ⟨#[116,105,109,101,115,95,110,117,109]⟩
noncomputable def z_26 : Str := ⟨#[98,118,95,110,117,109,98,101,114,115]⟩
noncomputable def z_27 : Str := ⟨#[119,105,100,116,104]⟩
noncomputable def z_28 : Str := ⟨#[98,118,95,115,111,114,116]⟩
noncomputable def z_29 : Str := ⟨#[119,97,110,116,95,98,105,116,115]⟩
noncomputable def z_30 : Str := ⟨#[119,97,110,116,95,112,108,97,99,101]⟩
noncomputable def z_31 : Str := ⟨#[98,97,110,107]⟩
noncomputable def z_32 : Str := ⟨#[116,97,98,108,101,115]⟩
noncomputable def z_33 : Str := ⟨#[115,105,122,101]⟩
noncomputable def z_34 : Str := ⟨#[111,112]⟩
noncomputable def z_35 : Str := ⟨#[97,114,103,115]⟩
noncomputable def z_36 : Str := ⟨#[105,115,95,116,101,114,109]⟩
noncomputable def z_37 : Str := ⟨#[111,112,101,110,101,100,95,102,97,117,108,116]⟩
noncomputable def z_38 : Str := ⟨#[117,110,101,113,117,97,108,95,102,97,117,108,116]⟩
noncomputable def z_39 : Str := ⟨#[109,101,97,110,105,110,103]⟩
noncomputable def z_40 : Str := ⟨#[116,97,98,108,101,95,102,97,117,108,116]⟩
noncomputable def z_41 : Str := ⟨#[102,105,110,100,95,109,97,100,101]⟩
noncomputable def z_42 : Str := ⟨#[98,105,116,95,107,101,121]⟩
noncomputable def z_43 : Str := ⟨#[115,105,100,101,95,109,101,97,110,105,110,103]⟩
noncomputable def z_44 : Str := ⟨#[111,114,100,101,114,95,109,101,97,110,105,110,103]⟩
noncomputable def z_45 : Str := ⟨#[101,113,117,97,108,95,109,101,97,110,105,110,103]⟩
noncomputable def z_46 : Str := ⟨#[119,97,110,116,101,100,95,98,105,116]⟩
noncomputable def z_47 : Str := ⟨#[100,97,116,97]⟩
noncomputable def z_48 : Str := ⟨#[98,105,116]⟩
noncomputable def z_49 : Str := ⟨#[115,105,100,101]⟩
noncomputable def z_50 : Str := ⟨#[115,105,103,110,101,100]⟩
noncomputable def z_51 : Str := ⟨#[119,105,114,101,100,95,98,105,116]⟩
noncomputable def z_52 : Str := ⟨#[117,110,108,105,107,101]⟩
noncomputable def z_53 : Str := ⟨#[112,111,112]⟩
noncomputable def z_54 : Str := ⟨#[101,120,116,101,110,100]⟩
noncomputable def z_55 : Str := ⟨#[104,111,108,100,115]⟩
noncomputable def z_56 : Str := ⟨#[109,97,110,121,95,119,111,114,108,100,115]⟩
noncomputable def z_57 : Str := ⟨#[119,111,114,108,100,115,95,102,97,117,108,116]⟩
noncomputable def z_58 : Str := ⟨#[100,105,118,105,115,105,111,110,95,108,105,110,101,115]⟩
noncomputable def z_59 : Str := ⟨#[101,120,112,97,110,100,95,108,105,110,101,115]⟩
noncomputable def z_60 : Str := ⟨#[116,97,98,108,101]⟩
noncomputable def z_61 : Str := ⟨#[102,105,110,100,95,98,118,95,115,111,114,116]⟩
noncomputable def z_62 : Str := ⟨#[109,97,100,101]⟩
noncomputable def z_63 : Str := ⟨#[98,105,116,95,111,102]⟩
noncomputable def z_64 : Str := ⟨#[115,104,105,102,116,101,100]⟩
noncomputable def z_65 : Str := ⟨#[101,120,112,97,110,115,105,111,110]⟩
noncomputable def z_66 : Str := ⟨#[116,114,117,101,95,116,101,114,109]⟩
noncomputable def z_67 : Str := ⟨#[102,114,101,101,95,116,97,98,108,101,115]⟩
noncomputable def z_68 : Str := ⟨#[99,111,108,117,109,110]⟩
noncomputable def z_69 : Str := ⟨#[114,101,99,107,111,110]⟩
noncomputable def z_70 : Str := ⟨#[114,101,99,107,111,110,95,98,105,116,115]⟩
noncomputable def z_71 : Str := ⟨#[98,118,95,110,117,109]⟩
noncomputable def z_72 : Str := ⟨#[99,111,110,99,97,116]⟩
noncomputable def z_73 : Str := ⟨#[101,120,116,114,97,99,116]⟩
noncomputable def z_74 : Str := ⟨#[105,116,101]⟩
noncomputable def z_75 : Str := ⟨#[98,118,95,116,119,111]⟩
noncomputable def z_76 : Str := ⟨#[102,114,101,115,104,95,99,111,110,115,116]⟩
noncomputable def z_77 : Str := ⟨#[122,101,114,111,95,101,120,116,101,110,100]⟩
noncomputable def z_78 : Str := ⟨#[98,118,95,111,110,101]⟩
noncomputable def z_79 : Str := ⟨#[102,97,117,108,116]⟩
noncomputable def z_80 : Str := ⟨#[66,79,79,76]⟩
noncomputable def z_81 : Str := ⟨#[73,78,84]⟩
noncomputable def z_82 : Str := ⟨#[82,69,65,76]⟩
noncomputable def z_83 : Str := ⟨#[87,73,68,69,83,84]⟩
noncomputable def z_84 : Str := ⟨#[66,86,95,83,65,77,69]⟩
noncomputable def z_85 : Str := ⟨#[66,86,95,65,83,75]⟩
noncomputable def z_86 : Str := ⟨#[77,79,83,84,95,65,84,79,77,83]⟩
noncomputable def z_87 : Str := ⟨#[77,79,83,84,95,87,79,82,76,68,83]⟩
noncomputable def z_88 : Str := ⟨#[69,88,80,65,78,68,69,68]⟩
noncomputable def z_89 : Str := ⟨#[81,85,79,84,73,69,78,84,83]⟩
noncomputable def z_90 : Str := ⟨#[95,108,97,119,95,111,112,115]⟩
noncomputable def z_91 : Str := ⟨#[98,118,97,110,100]⟩
noncomputable def z_92 : Str := ⟨#[98,118,111,114]⟩
noncomputable def z_93 : Str := ⟨#[98,118,120,111,114]⟩
noncomputable def z_94 : Str := ⟨#[98,118,97,100,100]⟩
noncomputable def z_95 : Str := ⟨#[98,118,115,117,98]⟩
noncomputable def z_96 : Str := ⟨#[98,118,109,117,108]⟩
noncomputable def z_97 : Str := ⟨#[98,118,115,104,108]⟩
noncomputable def z_98 : Str := ⟨#[98,118,108,115,104,114]⟩
noncomputable def z_99 : Str := ⟨#[98,118,117,100,105,118]⟩
noncomputable def z_100 : Str := ⟨#[98,118,117,114,101,109]⟩
noncomputable def z_101 : Str := ⟨#[98,118,117,108,116]⟩
noncomputable def z_102 : Str := ⟨#[98,118,117,108,101]⟩
noncomputable def z_103 : Str := ⟨#[98,118,115,108,116]⟩
noncomputable def z_104 : Str := ⟨#[98,118,115,108,101]⟩
noncomputable def z_105 : Str := ⟨#[98,118,110,101,103]⟩
noncomputable def z_106 : Str := ⟨#[105,115,95,110,117,109,98,101,114]⟩
noncomputable def z_107 : Str := ⟨#[105,115,95,116,117,112,108,101,95,111,102]⟩
noncomputable def z_108 : Str := ⟨#[97,114,101,95,115,97,109,101,95,115,101,116,115]⟩
noncomputable def z_109 : Str := ⟨#[119,105,116,104,111,117,116,95,100,111,117,98,108,101,115]⟩
noncomputable def z_110 : Str := ⟨#[103,99,100,95,111,102]⟩
noncomputable def z_111 : Str := ⟨#[114,97,116,105,111]⟩
noncomputable def z_112 : Str := ⟨#[109,117,108]⟩
noncomputable def z_113 : Str := ⟨#[105,115,95,119,104,111,108,101]⟩
noncomputable def z_114 : Str := ⟨#[95,108,97,119,95,110,101,120,116]⟩
noncomputable def z_115 : Str := ⟨#[95,108,97,119,95,109,111,118,101,100]⟩
noncomputable def z_116 : Str := ⟨#[95,108,97,119,95,112,114,111,100,117,99,116]⟩
noncomputable def z_117 : Str := ⟨#[95,108,97,119,95,115,104,105,102,116]⟩
noncomputable def z_118 : Str := ⟨#[95,108,97,119,95,115,99,101,110,101]⟩
noncomputable def z_119 : Str := ⟨#[95,108,97,119,95,108,105,110,101,115]⟩
noncomputable def z_120 : Str := ⟨#[95,108,97,119,95,98,101,110,116]⟩
noncomputable def z_121 : Str := ⟨#[108,97,119]⟩
noncomputable def z_122 : Str := ⟨#[84,101,114,109,66,97,110,107]⟩
noncomputable def z_123 : Str := ⟨#[66,105,116,74,117,100,103,101]⟩
noncomputable def z_124 : Str := ⟨#[66,111,111,108]⟩
noncomputable def z_125 : Str := ⟨#[73,110,116]⟩
noncomputable def z_126 : Str := ⟨#[82,101,97,108]⟩
noncomputable def z_127 : Str := ⟨#[]⟩
noncomputable def z_128 : Str := ⟨#[116,114,117,101]⟩
noncomputable def z_129 : Str := ⟨#[102,97,108,115,101]⟩
noncomputable def z_130 : Str := ⟨#[97,112,112]⟩
noncomputable def z_131 : Str := ⟨#[61]⟩
noncomputable def z_132 : Str := ⟨#[98,118,110,117,109]⟩
noncomputable def z_133 : Str := ⟨#[98,118,110,111,116]⟩
noncomputable def z_134 : Str := ⟨#[110,111,116,101]⟩
noncomputable def z_135 : Str := ⟨#[101,120,112,97,110,100]⟩
noncomputable def z_136 : Str := ⟨#[100,105,118,105,115,105,111,110]⟩
noncomputable def z_137 : Str := ⟨#[117,110,101,113,117,97,108]⟩
noncomputable def z_138 : Str := ⟨#[98,105,116,115]⟩
noncomputable def z_139 : Str := ⟨#[115,112,111,116]⟩
noncomputable def z_140 : Str := ⟨#[99,101,108,108,115]⟩
noncomputable def z_141 : Str := ⟨#[120]⟩
noncomputable def z_142 : Str := ⟨#[121]⟩
noncomputable def z_143 : Str := ⟨#[115,104,111,114,116]⟩
noncomputable def z_144 : Str := ⟨#[102,111,117,110,100]⟩
noncomputable def z_145 : Str := ⟨#[102,114,101,101]⟩
noncomputable def names0 : List Str := [z_0, z_1, z_2, z_3, z_4, z_5, z_6, z_7, z_8, z_9, z_10, z_11, z_12, z_13, z_14, z_15, z_16, z_17, z_18, z_19, z_20, z_21, z_22, z_23, z_24, z_25, z_26, z_27, z_28, z_29, z_30, z_31, z_32, z_33, z_34, z_35, z_36, z_37, z_38, z_39, z_40, z_41, z_42, z_43, z_44, z_45, z_46, z_47, z_48, z_49, z_50, z_51, z_52, z_53, z_54, z_55, z_56, z_57, z_58, z_59, z_60, z_61, z_62, z_63, z_64, z_65, z_66, z_67, z_68, z_69, z_70, z_71, z_72, z_73, z_74, z_75, z_76, z_77, z_78, z_79, z_80, z_81, z_82, z_83, z_84, z_85, z_86, z_87, z_88, z_89, z_90]
noncomputable def con0 : List (Str × V) := [(z_80, (.int 0)),
  (z_81, (.int 1)),
  (z_82, (.int 2)),
  (z_83, (.int 4096)),
  (z_84, (.tup [(.str z_91), (.str z_92), (.str z_93), (.str z_94), (.str z_95), (.str z_96), (.str z_97), (.str z_98), (.str z_99), (.str z_100)])),
  (z_85, (.tup [(.str z_101), (.str z_102), (.str z_103), (.str z_104)])),
  (z_86, (.int 12)),
  (z_87, (.int 64)),
  (z_88, (.tup [(.str z_105), (.str z_96), (.str z_97), (.str z_98)])),
  (z_89, (.tup [(.str z_99), (.str z_100)])),
  (z_90, (.tup [(.str z_105), (.str z_96), (.str z_96), (.str z_97), (.str z_98), (.str z_99), (.str z_100), (.str z_99)]))]
noncomputable def gfn0 : List (Str × Nat) := [(z_106, 0), (z_107, 1), (z_108, 2), (z_109, 3), (z_110, 8), (z_111, 9), (z_112, 10), (z_113, 11), (z_114, 81), (z_115, 82), (z_116, 83), (z_117, 84), (z_118, 85), (z_119, 86), (z_120, 87), (z_121, 88)]
noncomputable def gcl0 : List (Str × Nat) := [(z_122, 0), (z_123, 1)]
noncomputable def G0 : Gt := ⟨names0, con0, gfn0, gcl0, none⟩
noncomputable def P0 : Pg := ⟨[[(1, 35), (28, 36), (61, 37), (29, 38), (71, 39), (78, 40), (75, 41), (72, 42), (73, 43), (77, 44), (30, 46), (48, 47), (24, 31), (23, 32), (25, 33), (21, 28), (74, 29), (1, 12), (22, 13), (17, 14), (76, 15), (34, 16), (35, 17), (47, 19), (27, 20), (33, 21), (15, 22), (41, 23), (19, 24), (20, 25), (66, 26)], [(1, 50), (36, 51), (50, 52), (79, 53), (42, 54), (48, 55), (49, 56), (39, 57), (46, 58), (51, 59), (43, 60), (44, 61), (45, 62), (38, 63), (52, 64), (40, 65), (55, 66), (37, 67), (57, 68), (63, 69), (62, 70), (64, 71), (65, 72), (59, 73), (58, 74), (56, 75), (60, 76), (67, 77), (68, 78), (69, 79), (70, 80)]], [35, 50]⟩
noncomputable def f_0 : Fn := ⟨[0], 3, (.ret (.and (.isi (.var 0) .int) (.not (.isi (.var 0) .bool))))⟩
noncomputable def f_1 : Fn := ⟨[0, 1], 4, (.ret (.and (.isi (.var 0) .tuple) (.cmp .Eq (.bi .len (.cons (.var 0) .nil)) (.var 1))))⟩
noncomputable def f_2 : Fn := ⟨[0, 1], 4, (.ret (.cmp .Eq (.bi .sorted (.cons (.var 0) .nil)) (.bi .sorted (.cons (.var 1) .nil))))⟩
noncomputable def f_3 : Fn := ⟨[0], 6, (.seq (.asgT [1, 2] (.tup (.cons (.lstH .nil) (.cons (.dictH .nil .nil) .nil))))  (.seq (.forS (.one 3) (.var 0) (.seq (.ite (.cmp .In (.neg (.var 3)) (.var 2)) (.ret (.cst .none)) .skip)  (.ite (.cmp .NotIn (.var 3) (.var 2)) (.seq (.setI (.var 2) (.var 3) (.cst (.bool true)))  (.ex (.bm .append (.var 1) (.cons (.var 3) .nil)))) .skip)))  (.retF 1)))⟩
noncomputable def f_12 : Fn := ⟨[0], 3, (.seq (.setA (.var 0) 3 (.lstH (.cons (.cst (.str z_124)) (.cons (.cst (.str z_125)) (.cons (.cst (.str z_126)) .nil)))))  (.seq (.setA (.var 0) 4 (.lstH (.cons (.cst (.int 0)) (.cons (.cst (.int 0)) (.cons (.cst (.int 0)) .nil)))))  (.seq (.setA (.var 0) 5 (.lstH .nil))  (.seq (.setA (.var 0) 6 (.lstH .nil))  (.seq (.setA (.var 0) 7 (.lstH .nil))  (.seq (.setA (.var 0) 8 (.cst (.int 0)))  (.seq (.setA (.var 0) 9 (.lstH (.cons (.cst (.str z_127)) .nil)))  (.seq (.setA (.var 0) 10 (.lstH (.cons (.tup .nil) .nil)))  (.seq (.setA (.var 0) 11 (.lstH (.cons (.glob 80 (.int 0)) .nil)))  (.seq (.setA (.var 0) 12 (.lstH (.cons (.cst (.int 0)) .nil)))  (.seq (.setA (.var 0) 13 (.dictH .nil .nil))  (.seq (.setA (.var 0) 14 (.meth (.var 0) 15 (.cons (.cst (.str z_128)) (.cons (.tup .nil) (.cons (.glob 80 (.int 0)) (.cons (.cst (.int 0)) .nil))))))  (.setA (.var 0) 16 (.meth (.var 0) 15 (.cons (.cst (.str z_129)) (.cons (.tup .nil) (.cons (.glob 80 (.int 0)) (.cons (.cst (.int 0)) .nil))))))))))))))))))⟩
noncomputable def f_14 : Fn := ⟨[0, 1, 2, 3], 6, (.seq (.ex (.bm .append (.attr (.var 0) 5) (.cons (.var 1) .nil)))  (.seq (.ex (.bm .append (.attr (.var 0) 6) (.cons (.bi .tuple (.cons (.var 2) .nil)) .nil)))  (.seq (.ex (.bm .append (.attr (.var 0) 7) (.cons (.var 3) .nil)))  (.ret (.bin .Sub (.bi .len (.cons (.attr (.var 0) 5) .nil)) (.cst (.int 1)))))))⟩
noncomputable def f_15 : Fn := ⟨[0, 1, 2], 5, (.ret (.meth (.var 0) 15 (.cons (.cst (.str z_130)) (.cons (.tup .nil) (.cons (.var 2) (.cons (.meth (.var 0) 17 (.cons (.var 1) (.cons (.tup .nil) (.cons (.var 2) .nil)))) .nil))))))⟩
noncomputable def f_16 : Fn := ⟨[0, 1], 4, (.ret (.sub (.attr (.var 0) 9) (.var 1)))⟩
noncomputable def f_17 : Fn := ⟨[0, 1], 4, (.ret (.sub (.attr (.var 0) 10) (.var 1)))⟩
noncomputable def f_20 : Fn := ⟨[0, 1], 4, (.ret (.sub (.attr (.var 0) 4) (.sub (.attr (.var 0) 11) (.var 1))))⟩
noncomputable def f_21 : Fn := ⟨[0], 3, (.ret (.bin .Sub (.bi .len (.cons (.attr (.var 0) 9) .nil)) (.cst (.int 1))))⟩
noncomputable def f_22 : Fn := ⟨[0, 1, 2, 3, 4], 9, (.seq (.asg 5 (.tup (.cons (.var 1) (.cons (.var 2) (.cons (.var 3) (.cons (.var 4) .nil))))))  (.seq (.asg 6 (.bm .get (.attr (.var 0) 13) (.cons (.var 5) (.cons (.cst (.int 0)) .nil))))  (.seq (.ite (.cmp .Eq (.var 6) (.cst (.int 0))) (.seq (.asg 6 (.bi .len (.cons (.attr (.var 0) 9) .nil)))  (.seq (.ex (.bm .append (.attr (.var 0) 9) (.cons (.var 1) .nil)))  (.seq (.ex (.bm .append (.attr (.var 0) 10) (.cons (.var 2) .nil)))  (.seq (.ex (.bm .append (.attr (.var 0) 11) (.cons (.var 3) .nil)))  (.seq (.ex (.bm .append (.attr (.var 0) 12) (.cons (.var 4) .nil)))  (.setI (.attr (.var 0) 13) (.var 5) (.var 6))))))) .skip)  (.ret (.var 6)))))⟩
noncomputable def f_23 : Fn := ⟨[0, 1, 2, 3, 4], 7, (.ret (.bm .get (.attr (.var 0) 13) (.cons (.tup (.cons (.var 1) (.cons (.var 2) (.cons (.var 3) (.cons (.var 4) .nil))))) (.cons (.cst (.int 0)) .nil))))⟩
noncomputable def f_24 : Fn := ⟨[0, 1, 2, 3], 6, (.ite (.cmp .NotEq (.sub (.attr (.var 0) 11) (.var 1)) (.var 2)) .bad .skip)⟩
noncomputable def f_26 : Fn := ⟨[0], 3, (.ret (.attr (.var 0) 14))⟩
noncomputable def f_28 : Fn := ⟨[0, 1, 2], 5, (.seq (.ex (.meth (.var 0) 19 (.cons (.var 2) (.cons (.sub (.attr (.var 0) 11) (.var 1)) (.cons (.cst (.str z_131)) .nil)))))  (.seq (.ite (.cmp .Eq (.var 1) (.var 2)) (.ret (.attr (.var 0) 14)) .skip)  (.ret (.meth (.var 0) 15 (.cons (.cst (.str z_131)) (.cons (.tup (.cons (.bi .min (.cons (.var 1) (.cons (.var 2) .nil))) (.cons (.bi .max (.cons (.var 1) (.cons (.var 2) .nil))) .nil))) (.cons (.glob 80 (.int 0)) (.cons (.cst (.int 0)) .nil))))))))⟩
noncomputable def f_29 : Fn := ⟨[0, 1, 2, 3], 6, (.seq (.ex (.meth (.var 0) 19 (.cons (.var 1) (.cons (.glob 80 (.int 0)) (.cons (.cst (.str z_74)) .nil)))))  (.seq (.ex (.meth (.var 0) 19 (.cons (.var 3) (.cons (.sub (.attr (.var 0) 11) (.var 2)) (.cons (.cst (.str z_74)) .nil)))))  (.ret (.meth (.var 0) 15 (.cons (.cst (.str z_74)) (.cons (.tup (.cons (.var 1) (.cons (.var 2) (.cons (.var 3) .nil)))) (.cons (.sub (.attr (.var 0) 11) (.var 2)) (.cons (.cst (.int 0)) .nil))))))))⟩
noncomputable def f_35 : Fn := ⟨[0], 3, (.seq (.ex (.sup 12))  (.setA (.var 0) 26 (.dictH .nil .nil)))⟩
noncomputable def f_36 : Fn := ⟨[0, 1], 4, (.seq (.ite (.cmp .Lt (.var 1) (.cst (.int 1))) .bad .skip)  (.seq (.ite (.cmp .Gt (.var 1) (.glob 83 (.int 4096))) .bad .skip)  (.seq (.ite (.cmp .NotIn (.var 1) (.attr (.var 0) 26)) (.seq (.ex (.bm .append (.attr (.var 0) 3) (.cons (.bvn (.var 1)) .nil)))  (.seq (.ex (.bm .append (.attr (.var 0) 4) (.cons (.var 1) .nil)))  (.setI (.attr (.var 0) 26) (.var 1) (.bin .Sub (.bi .len (.cons (.attr (.var 0) 3) .nil)) (.cst (.int 1)))))) .skip)  (.ret (.sub (.attr (.var 0) 26) (.var 1))))))⟩
noncomputable def f_37 : Fn := ⟨[0, 1], 4, (.ret (.bm .get (.attr (.var 0) 26) (.cons (.var 1) (.cons (.neg (.cst (.int 1))) .nil))))⟩
noncomputable def f_38 : Fn := ⟨[0, 1, 2], 5, (.ite (.cmp .Eq (.meth (.var 0) 27 (.cons (.var 1) .nil)) (.cst (.int 0))) .bad .skip)⟩
noncomputable def f_39 : Fn := ⟨[0, 1, 2], 6, (.seq (.asg 3 (.meth (.var 0) 28 (.cons (.var 2) .nil)))  (.ret (.meth (.var 0) 15 (.cons (.cst (.str z_132)) (.cons (.tup .nil) (.cons (.var 3) (.cons (.bin .Mod (.var 1) (.bin .LShift (.cst (.int 1)) (.var 2))) .nil)))))))⟩
noncomputable def f_40 : Fn := ⟨[0, 1, 2], 5, (.seq (.ex (.meth (.var 0) 29 (.cons (.var 2) (.cons (.var 1) .nil))))  (.seq (.ite (.and (.cmp .NotEq (.var 1) (.cst (.str z_133))) (.cmp .NotEq (.var 1) (.cst (.str z_105)))) .bad .skip)  (.ret (.meth (.var 0) 15 (.cons (.var 1) (.cons (.tup (.cons (.var 2) .nil)) (.cons (.sub (.attr (.var 0) 11) (.var 2)) (.cons (.cst (.int 0)) .nil))))))))⟩
noncomputable def f_41 : Fn := ⟨[0, 1, 2, 3], 6, (.seq (.ex (.meth (.var 0) 29 (.cons (.var 2) (.cons (.var 1) .nil))))  (.seq (.ex (.meth (.var 0) 19 (.cons (.var 3) (.cons (.sub (.attr (.var 0) 11) (.var 2)) (.cons (.var 1) .nil)))))  (.seq (.ite (.cmp .In (.var 1) (.glob 84 (.tup [(.str z_91), (.str z_92), (.str z_93), (.str z_94), (.str z_95), (.str z_96), (.str z_97), (.str z_98), (.str z_99), (.str z_100)]))) (.ret (.meth (.var 0) 15 (.cons (.var 1) (.cons (.tup (.cons (.var 2) (.cons (.var 3) .nil))) (.cons (.sub (.attr (.var 0) 11) (.var 2)) (.cons (.cst (.int 0)) .nil)))))) .skip)  (.seq (.ite (.cmp .In (.var 1) (.glob 85 (.tup [(.str z_101), (.str z_102), (.str z_103), (.str z_104)]))) (.ret (.meth (.var 0) 15 (.cons (.var 1) (.cons (.tup (.cons (.var 2) (.cons (.var 3) .nil))) (.cons (.glob 80 (.int 0)) (.cons (.cst (.int 0)) .nil)))))) .skip)  .bad))))⟩
noncomputable def f_42 : Fn := ⟨[0, 1, 2], 5, (.seq (.ex (.meth (.var 0) 29 (.cons (.var 1) (.cons (.cst (.str z_72)) .nil))))  (.seq (.ex (.meth (.var 0) 29 (.cons (.var 2) (.cons (.cst (.str z_72)) .nil))))  (.ret (.meth (.var 0) 15 (.cons (.cst (.str z_72)) (.cons (.tup (.cons (.var 1) (.cons (.var 2) .nil))) (.cons (.meth (.var 0) 28 (.cons (.bin .Add (.meth (.var 0) 27 (.cons (.var 1) .nil)) (.meth (.var 0) 27 (.cons (.var 2) .nil))) .nil)) (.cons (.cst (.int 0)) .nil))))))))⟩
noncomputable def f_43 : Fn := ⟨[0, 1, 2, 3], 6, (.seq (.ex (.meth (.var 0) 29 (.cons (.var 3) (.cons (.cst (.str z_73)) .nil))))  (.seq (.ite (.not (.cmp3 .LtE .LtE .Lt (.cst (.int 0)) (.var 2) (.var 1) (.meth (.var 0) 27 (.cons (.var 3) .nil)))) .bad .skip)  (.ret (.meth (.var 0) 15 (.cons (.cst (.str z_73)) (.cons (.tup (.cons (.var 3) .nil)) (.cons (.meth (.var 0) 28 (.cons (.bin .Add (.bin .Sub (.var 1) (.var 2)) (.cst (.int 1))) .nil)) (.cons (.tup (.cons (.var 1) (.cons (.var 2) .nil))) .nil))))))))⟩
noncomputable def f_44 : Fn := ⟨[0, 1, 2], 5, (.seq (.ex (.meth (.var 0) 29 (.cons (.var 2) (.cons (.cst (.str z_77)) .nil))))  (.seq (.ite (.cmp .Lt (.var 1) (.cst (.int 0))) .bad .skip)  (.ret (.ife (.cmp .Eq (.var 1) (.cst (.int 0))) (.var 2) (.meth (.var 0) 15 (.cons (.cst (.str z_77)) (.cons (.tup (.cons (.var 2) .nil)) (.cons (.meth (.var 0) 28 (.cons (.bin .Add (.meth (.var 0) 27 (.cons (.var 2) .nil)) (.var 1)) .nil)) (.cons (.var 1) .nil)))))))))⟩
noncomputable def f_47 : Fn := ⟨[0, 1, 2], 5, (.seq (.ex (.meth (.var 0) 29 (.cons (.var 2) (.cons (.cst (.str z_48)) .nil))))  (.seq (.ite (.not (.cmp2 .LtE .Lt (.cst (.int 0)) (.var 1) (.meth (.var 0) 27 (.cons (.var 2) .nil)))) .bad .skip)  (.ret (.meth (.var 0) 15 (.cons (.cst (.str z_48)) (.cons (.tup (.cons (.var 2) .nil)) (.cons (.glob 80 (.int 0)) (.cons (.var 1) .nil))))))))⟩
noncomputable def f_50 : Fn := ⟨[0, 1], 4, (.seq (.setA (.var 0) 31 (.var 1))  (.setA (.var 0) 32 (.dictH .nil .nil)))⟩
noncomputable def f_51 : Fn := ⟨[0, 1], 4, (.ret (.and (.call 0 (.cons (.var 1) .nil)) (.cmp2 .Lt .LtE (.cst (.int 0)) (.var 1) (.meth (.attr (.var 0) 31) 33 .nil))))⟩
noncomputable def f_53 : Fn := ⟨[0, 1, 2], 9, (.seq (.ite (.or (.not (.call 1 (.cons (.var 2) (.cons (.cst (.int 3)) .nil)))) (.or (.not (.meth (.var 0) 36 (.cons (.sub (.var 2) (.cst (.int 0))) .nil))) (.not (.call 0 (.cons (.sub (.var 2) (.cst (.int 1))) .nil))))) (.ret (.cst (.str z_134))) .skip)  (.seq (.asgT [3, 4, 5] (.var 2))  (.seq (.ite (.not (.isi (.var 5) .str)) (.ret (.cst (.str z_134))) .skip)  (.seq (.ite (.or (.cmp .Eq (.var 5) (.cst (.str z_135))) (.cmp .Eq (.var 5) (.cst (.str z_136)))) (.ret (.meth (.var 0) 37 (.cons (.var 1) (.cons (.var 3) (.cons (.var 4) (.cons (.var 5) .nil)))))) .skip)  (.seq (.ite (.cmp .Eq (.var 5) (.cst (.str z_137))) (.ret (.meth (.var 0) 38 (.cons (.var 1) (.cons (.var 3) .nil)))) .skip)  (.seq (.asg 6 (.meth (.var 0) 39 (.cons (.var 3) (.cons (.var 4) (.cons (.var 5) .nil)))))  (.seq (.ite (.cmp .Is (.var 6) (.cst .none)) (.ret (.cst (.str z_134))) .skip)  (.ret (.meth (.var 0) 40 (.cons (.var 1) (.cons (.var 6) .nil)))))))))))⟩
noncomputable def f_67 : Fn := ⟨[0, 1, 2, 3, 4], 12, (.seq (.asg 5 (.ife (.cmp .Eq (.var 4) (.cst (.str z_136))) (.glob 89 (.tup [(.str z_99), (.str z_100)])) (.glob 88 (.tup [(.str z_105), (.str z_96), (.str z_97), (.str z_98)]))))  (.seq (.ite (.cmp .NotIn (.meth (.attr (.var 0) 31) 34 (.cons (.var 2) .nil)) (.var 5)) (.ret (.cst (.str z_134))) .skip)  (.seq (.asg 6 (.lstH .nil))  (.seq (.forS (.one 7) (.meth (.attr (.var 0) 31) 35 (.cons (.var 2) .nil)) (.seq (.whl (.cmp .Eq (.meth (.attr (.var 0) 31) 34 (.cons (.var 7) .nil)) (.cst (.str z_77))) (.asg 7 (.sub (.meth (.attr (.var 0) 31) 35 (.cons (.var 7) .nil)) (.cst (.int 0)))))  (.ite (.and (.cmp .NotIn (.var 7) (.var 6)) (.cmp .NotEq (.meth (.attr (.var 0) 31) 34 (.cons (.var 7) .nil)) (.cst (.str z_132)))) (.ex (.bm .append (.var 6) (.cons (.var 7) .nil))) .skip)))  (.seq (.ite (.cmp .LtE (.meth (.var 0) 56 (.cons (.var 6) .nil)) (.glob 87 (.int 64))) (.ret (.meth (.var 0) 57 (.cons (.var 1) (.cons (.bi .tuple (.cons (.var 6) .nil)) .nil)))) .skip)  (.seq (.asg 8 (.ife (.cmp .Eq (.var 4) (.cst (.str z_136))) (.meth (.var 0) 58 (.cons (.var 2) (.cons (.var 3) .nil))) (.meth (.var 0) 59 (.cons (.var 2) (.cons (.var 3) .nil)))))  (.seq (.forS (.one 9) (.var 8) (.ite (.cmp .NotIn (.cst (.int 0)) (.var 9)) (.seq (.asg 9 (.call 3 (.cons (.var 9) .nil)))  (.ite (.and (.cmp .IsNot (.var 9) (.cst .none)) (.call 2 (.cons (.var 9) (.cons (.var 1) .nil)))) (.ret (.cst (.str z_127))) .skip)) .skip))  (.ret (.cst (.str z_138))))))))))⟩
noncomputable def f_69 : Fn := ⟨[0, 1, 2], 5, (.ret (.ife (.cmp .NotEq (.var 2) (.cst (.int 0))) (.meth (.attr (.var 0) 31) 41 (.cons (.cst (.str z_48)) (.cons (.tup (.cons (.var 2) .nil)) (.cons (.glob 80 (.int 0)) (.cons (.var 1) .nil))))) (.cst (.int 0))))⟩
noncomputable def f_70 : Fn := ⟨[0, 1, 2, 3, 4], 8, (.seq (.asg 5 (.meth (.attr (.var 0) 31) 61 (.cons (.var 3) .nil)))  (.ret (.ife (.or (.cmp .Lt (.var 5) (.cst (.int 0))) (.cmp .In (.cst (.int 0)) (.var 2))) (.cst (.int 0)) (.meth (.attr (.var 0) 31) 41 (.cons (.var 1) (.cons (.var 2) (.cons (.var 5) (.cons (.var 4) .nil))))))))⟩
noncomputable def f_71 : Fn := ⟨[0, 1, 2, 3], 8, (.seq (.ite (.cmp .Eq (.var 1) (.cst (.int 0))) (.ret (.cst (.int 0))) .skip)  (.seq (.asg 4 (.meth (.attr (.var 0) 31) 27 (.cons (.var 1) .nil)))  (.seq (.asg 5 (.meth (.var 0) 62 (.cons (.cst (.str z_132)) (.cons (.tup .nil) (.cons (.var 2) (.cons (.cst (.int 0)) .nil))))))  (.seq (.ite (.var 3) (.ret (.meth (.var 0) 62 (.cons (.cst (.str z_72)) (.cons (.tup (.cons (.meth (.var 0) 62 (.cons (.cst (.str z_73)) (.cons (.tup (.cons (.var 1) .nil)) (.cons (.bin .Sub (.var 4) (.var 2)) (.cons (.tup (.cons (.bin .Sub (.bin .Sub (.var 4) (.cst (.int 1))) (.var 2)) (.cons (.cst (.int 0)) .nil))) .nil))))) (.cons (.var 5) .nil))) (.cons (.var 4) (.cons (.cst (.int 0)) .nil)))))) .skip)  (.ret (.meth (.var 0) 62 (.cons (.cst (.str z_72)) (.cons (.tup (.cons (.var 5) (.cons (.meth (.var 0) 62 (.cons (.cst (.str z_73)) (.cons (.tup (.cons (.var 1) .nil)) (.cons (.bin .Sub (.var 4) (.var 2)) (.cons (.tup (.cons (.bin .Sub (.var 4) (.cst (.int 1))) (.cons (.var 2) .nil))) .nil))))) .nil))) (.cons (.var 4) (.cons (.cst (.int 0)) .nil))))))))))⟩
noncomputable def f_72 : Fn := ⟨[0, 1], 15, (.seq (.asgT [2, 3, 4] (.tup (.cons (.meth (.attr (.var 0) 31) 34 (.cons (.var 1) .nil)) (.cons (.meth (.attr (.var 0) 31) 35 (.cons (.var 1) .nil)) (.cons (.meth (.attr (.var 0) 31) 27 (.cons (.var 1) .nil)) .nil)))))  (.seq (.asgT [5, 6] (.tup (.cons (.sub (.var 3) (.cst (.int 0))) (.cons (.sub (.var 3) (.neg (.cst (.int 1)))) .nil))))  (.seq (.asg 7 (.meth (.var 0) 62 (.cons (.cst (.str z_132)) (.cons (.tup .nil) (.cons (.var 4) (.cons (.cst (.int 0)) .nil))))))  (.seq (.ite (.cmp .Eq (.var 2) (.cst (.str z_105))) (.ret (.meth (.var 0) 62 (.cons (.cst (.str z_95)) (.cons (.tup (.cons (.var 7) (.cons (.var 5) .nil))) (.cons (.var 4) (.cons (.cst (.int 0)) .nil)))))) .skip)  (.seq (.ite (.cmp .Eq (.var 2) (.cst (.str z_96))) (.seq (.asg 8 (.ife (.cmp .Eq (.meth (.attr (.var 0) 31) 34 (.cons (.var 6) .nil)) (.cst (.str z_77))) (.meth (.attr (.var 0) 31) 27 (.cons (.sub (.meth (.attr (.var 0) 31) 35 (.cons (.var 6) .nil)) (.cst (.int 0))) .nil)) (.var 4)))  (.seq (.asg 9 (.meth (.var 0) 62 (.cons (.cst (.str z_74)) (.cons (.tup (.cons (.meth (.var 0) 63 (.cons (.cst (.int 0)) (.cons (.var 6) .nil))) (.cons (.var 5) (.cons (.var 7) .nil)))) (.cons (.var 4) (.cons (.cst (.int 0)) .nil))))))  (.seq (.forS (.one 10) (.bi .range (.cons (.cst (.int 1)) (.cons (.var 8) .nil))) (.seq (.asg 11 (.meth (.var 0) 62 (.cons (.cst (.str z_74)) (.cons (.tup (.cons (.meth (.var 0) 63 (.cons (.var 10) (.cons (.var 6) .nil))) (.cons (.meth (.var 0) 64 (.cons (.var 5) (.cons (.var 10) (.cons (.cst (.bool true)) .nil)))) (.cons (.var 7) .nil)))) (.cons (.var 4) (.cons (.cst (.int 0)) .nil))))))  (.asg 9 (.meth (.var 0) 62 (.cons (.cst (.str z_94)) (.cons (.tup (.cons (.var 9) (.cons (.var 11) .nil))) (.cons (.var 4) (.cons (.cst (.int 0)) .nil))))))))  (.ret (.var 9))))) .skip)  (.seq (.asg 9 (.var 5))  (.seq (.forS (.one 10) (.bi .range (.cons (.var 4) .nil)) (.seq (.asg 12 (.ife (.cmp .Lt (.bin .LShift (.cst (.int 1)) (.var 10)) (.var 4)) (.meth (.var 0) 64 (.cons (.var 9) (.cons (.bin .LShift (.cst (.int 1)) (.var 10)) (.cons (.cmp .Eq (.var 2) (.cst (.str z_97))) .nil)))) (.var 7)))  (.asg 9 (.meth (.var 0) 62 (.cons (.cst (.str z_74)) (.cons (.tup (.cons (.meth (.var 0) 63 (.cons (.var 10) (.cons (.var 6) .nil))) (.cons (.var 12) (.cons (.var 9) .nil)))) (.cons (.var 4) (.cons (.cst (.int 0)) .nil))))))))  (.ret (.var 9)))))))))⟩
noncomputable def f_73 : Fn := ⟨[0, 1, 2], 7, (.seq (.ite (.not (.cmp2 .LtE .Lt (.cst (.int 0)) (.var 2) (.meth (.attr (.var 0) 31) 27 (.cons (.var 1) .nil)))) (.ret (.lst .nil)) .skip)  (.seq (.asgT [3, 4] (.tup (.cons (.meth (.var 0) 63 (.cons (.var 2) (.cons (.var 1) .nil))) (.cons (.meth (.var 0) 63 (.cons (.var 2) (.cons (.meth (.var 0) 65 (.cons (.var 1) .nil)) .nil))) .nil))))  (.ret (.lst (.cons (.lst (.cons (.neg (.var 3)) (.cons (.var 4) .nil))) (.cons (.lst (.cons (.var 3) (.cons (.neg (.var 4)) .nil))) .nil))))))⟩
noncomputable def f_74 : Fn := ⟨[0, 1, 2], 19, (.seq (.asgT [3, 4] (.meth (.attr (.var 0) 31) 35 (.cons (.var 1) .nil)))  (.seq (.asg 5 (.meth (.attr (.var 0) 31) 27 (.cons (.var 1) .nil)))  (.seq (.asg 6 (.meth (.var 0) 62 (.cons (.cst (.str z_132)) (.cons (.tup .nil) (.cons (.var 5) (.cons (.cst (.int 0)) .nil))))))  (.seq (.asg 7 (.ife (.cmp .Eq (.var 4) (.var 6)) (.meth (.attr (.var 0) 31) 66 .nil) (.meth (.attr (.var 0) 31) 41 (.cons (.cst (.str z_131)) (.cons (.tup (.cons (.bi .min (.cons (.var 4) (.cons (.var 6) .nil))) (.cons (.bi .max (.cons (.var 4) (.cons (.var 6) .nil))) .nil))) (.cons (.glob 80 (.int 0)) (.cons (.cst (.int 0)) .nil)))))))  (.seq (.asgT [8, 9] (.tup (.cons (.meth (.var 0) 62 (.cons (.cst (.str z_99)) (.cons (.tup (.cons (.var 3) (.cons (.var 4) .nil))) (.cons (.var 5) (.cons (.cst (.int 0)) .nil))))) (.cons (.meth (.var 0) 62 (.cons (.cst (.str z_100)) (.cons (.tup (.cons (.var 3) (.cons (.var 4) .nil))) (.cons (.var 5) (.cons (.cst (.int 0)) .nil))))) .nil))))  (.seq (.ite (.cmp .Eq (.var 2) (.bin .Mult (.cst (.int 2)) (.var 5))) (.ret (.lst (.cons (.lst (.cons (.var 7) (.cons (.meth (.attr (.var 0) 31) 41 (.cons (.cst (.str z_101)) (.cons (.tup (.cons (.var 9) (.cons (.var 4) .nil))) (.cons (.glob 80 (.int 0)) (.cons (.cst (.int 0)) .nil))))) .nil))) .nil))) .skip)  (.seq (.ite (.cmp .Gt (.var 2) (.bin .Mult (.cst (.int 2)) (.var 5))) (.seq (.asgT [10, 11, 12] (.comp (.meth (.var 0) 63 (.cons (.bin .Sub (.bin .Sub (.var 2) (.bin .Mult (.cst (.int 2)) (.var 5))) (.cst (.int 1))) (.cons (.var 17) .nil))) (.one 17) (.tup (.cons (.var 8) (.cons (.var 9) (.cons (.var 3) .nil)))) (.cst (.bool true))))  (.ret (.lst (.cons (.lst (.cons (.neg (.var 7)) (.cons (.var 10) .nil))) (.cons (.lst (.cons (.neg (.var 7)) (.cons (.neg (.var 11)) (.cons (.var 12) .nil)))) (.cons (.lst (.cons (.neg (.var 7)) (.cons (.var 11) (.cons (.neg (.var 12)) .nil)))) .nil)))))) .skip)  (.seq (.asg 13 (.comp (.meth (.var 0) 62 (.cons (.cst (.str z_77)) (.cons (.tup (.cons (.var 17) .nil)) (.cons (.bin .Mult (.cst (.int 2)) (.var 5)) (.cons (.var 5) .nil))))) (.one 17) (.tup (.cons (.var 8) (.cons (.var 4) (.cons (.var 9) (.cons (.var 3) .nil))))) (.cst (.bool true))))  (.seq (.asg 14 (.meth (.var 0) 62 (.cons (.cst (.str z_96)) (.cons (.tup (.cons (.sub (.var 13) (.cst (.int 0))) (.cons (.sub (.var 13) (.cst (.int 1))) .nil))) (.cons (.bin .Mult (.cst (.int 2)) (.var 5)) (.cons (.cst (.int 0)) .nil))))))  (.seq (.asg 15 (.meth (.var 0) 63 (.cons (.var 2) (.cons (.meth (.var 0) 62 (.cons (.cst (.str z_94)) (.cons (.tup (.cons (.var 14) (.cons (.sub (.var 13) (.cst (.int 2))) .nil))) (.cons (.bin .Mult (.cst (.int 2)) (.var 5)) (.cons (.cst (.int 0)) .nil))))) .nil))))  (.seq (.asg 16 (.meth (.var 0) 63 (.cons (.var 2) (.cons (.sub (.var 13) (.cst (.int 3))) .nil))))  (.ret (.lst (.cons (.lst (.cons (.var 7) (.cons (.neg (.var 15)) (.cons (.var 16) .nil)))) (.cons (.lst (.cons (.var 7) (.cons (.var 15) (.cons (.neg (.var 16)) .nil)))) .nil)))))))))))))))⟩
noncomputable def f_75 : Fn := ⟨[0, 1], 4, (.ret (.bin .LShift (.cst (.int 1)) (.bi .sum (.cons (.comp (.meth (.attr (.var 0) 31) 27 (.cons (.var 2) .nil)) (.one 2) (.var 1) (.cst (.bool true))) .nil))))⟩
noncomputable def f_81 : Fn := ⟨[0, 1], 5, (.seq (.asg 2 (.sub (.var 0) (.cst (.str z_139))))  (.seq (.setI (.var 0) (.cst (.str z_139)) (.bin .Add (.var 2) (.cst (.int 1))))  (.seq (.ite (.cmp .Lt (.var 2) (.bi .len (.cons (.sub (.var 0) (.cst (.str z_140))) .nil))) (.ret (.bin .Mod (.bi .int (.cons (.sub (.sub (.var 0) (.cst (.str z_140))) (.var 2)) .nil)) (.var 1))) .skip)  (.ret (.bin .Mod (.bin .Mod (.bi .int (.cons (.bin .Add (.bin .Add (.bin .Add (.bin .Mult (.bin .Mult (.cst (.int 9)) (.var 2)) (.var 2)) (.bin .Mult (.cst (.int 4)) (.var 2))) (.bi .len (.cons (.sub (.var 0) (.cst (.str z_140))) .nil))) (.cst (.int 6))) .nil)) (.cst (.int 79))) (.var 1))))))⟩
noncomputable def f_82 : Fn := ⟨[0, 1, 2, 3], 8, (.seq (.asgT [4, 5] (.tup (.cons (.meth (.var 0) 27 (.cons (.var 1) .nil)) (.cons (.meth (.var 0) 71 (.cons (.cst (.int 0)) (.cons (.var 2) .nil))) .nil))))  (.seq (.ite (.var 3) (.ret (.meth (.var 0) 72 (.cons (.meth (.var 0) 73 (.cons (.bin .Sub (.bin .Sub (.var 4) (.cst (.int 1))) (.var 2)) (.cons (.cst (.int 0)) (.cons (.var 1) .nil)))) (.cons (.var 5) .nil)))) .skip)  (.ret (.meth (.var 0) 72 (.cons (.var 5) (.cons (.meth (.var 0) 73 (.cons (.bin .Sub (.var 4) (.cst (.int 1))) (.cons (.var 2) (.cons (.var 1) .nil)))) .nil))))))⟩
noncomputable def f_83 : Fn := ⟨[0, 1, 2, 3], 9, (.seq (.asg 4 (.meth (.var 0) 71 (.cons (.cst (.int 0)) (.cons (.meth (.var 0) 27 (.cons (.var 1) .nil)) .nil))))  (.seq (.asg 5 (.meth (.var 0) 74 (.cons (.meth (.var 0) 48 (.cons (.cst (.int 0)) (.cons (.var 2) .nil))) (.cons (.var 1) (.cons (.var 4) .nil)))))  (.seq (.forS (.one 6) (.bi .range (.cons (.cst (.int 1)) (.cons (.var 3) .nil))) (.asg 5 (.meth (.var 0) 75 (.cons (.cst (.str z_94)) (.cons (.var 5) (.cons (.meth (.var 0) 74 (.cons (.meth (.var 0) 48 (.cons (.var 6) (.cons (.var 2) .nil))) (.cons (.call 82 (.cons (.var 0) (.cons (.var 1) (.cons (.var 6) (.cons (.cst (.bool true)) .nil))))) (.cons (.var 4) .nil)))) .nil))))))  (.ret (.var 5)))))⟩
noncomputable def f_84 : Fn := ⟨[0, 1, 2, 3], 10, (.seq (.asgT [4, 5] (.tup (.cons (.var 1) (.cons (.meth (.var 0) 27 (.cons (.var 1) .nil)) .nil))))  (.seq (.forS (.one 6) (.bi .range (.cons (.var 5) .nil)) (.seq (.asg 7 (.ife (.cmp .Lt (.bin .Pow (.cst (.int 2)) (.var 6)) (.var 5)) (.call 82 (.cons (.var 0) (.cons (.var 4) (.cons (.bin .Pow (.cst (.int 2)) (.var 6)) (.cons (.var 3) .nil))))) (.meth (.var 0) 71 (.cons (.cst (.int 0)) (.cons (.var 5) .nil)))))  (.asg 4 (.meth (.var 0) 74 (.cons (.meth (.var 0) 48 (.cons (.var 6) (.cons (.var 2) .nil))) (.cons (.var 7) (.cons (.var 4) .nil)))))))  (.ret (.var 4))))⟩
noncomputable def f_85 : Fn := ⟨[0], 9, (.seq (.asgT [1, 2] (.tup (.cons (.call 81 (.cons (.var 0) (.cons (.cst (.int 8)) .nil))) (.cons (.new 0 .nil) .nil))))  (.seq (.asg 3 (.ife (.cmp .In (.var 1) (.tup (.cons (.cst (.int 0)) (.cons (.cst (.int 7)) .nil)))) (.cst (.int 7)) (.ife (.cmp .Eq (.var 1) (.cst (.int 2))) (.cst (.int 5)) (.cst (.int 4)))))  (.seq (.asgT [4, 5] (.tup (.cons (.meth (.var 2) 76 (.cons (.cst (.str z_141)) (.cons (.meth (.var 2) 28 (.cons (.var 3) .nil)) .nil))) (.cons (.meth (.var 2) 76 (.cons (.cst (.str z_142)) (.cons (.meth (.var 2) 28 (.cons (.var 3) .nil)) .nil))) .nil))))  (.seq (.ite (.cmp .Eq (.var 1) (.cst (.int 2))) (.asg 5 (.meth (.var 2) 77 (.cons (.cst (.int 3)) (.cons (.meth (.var 2) 76 (.cons (.cst (.str z_143)) (.cons (.meth (.var 2) 28 (.cons (.cst (.int 2)) .nil)) .nil))) .nil)))) .skip)  (.seq (.ite (.cmp .Eq (.var 1) (.cst (.int 7))) (.asg 5 (.meth (.var 2) 71 (.cons (.cst (.int 0)) (.cons (.var 3) .nil)))) .skip)  (.seq (.asg 6 (.ife (.cmp .Eq (.var 1) (.cst (.int 0))) (.meth (.var 2) 78 (.cons (.cst (.str z_105)) (.cons (.var 4) .nil))) (.meth (.var 2) 75 (.cons (.sub (.glob 90 (.tup [(.str z_105), (.str z_96), (.str z_96), (.str z_97), (.str z_98), (.str z_99), (.str z_100), (.str z_99)])) (.var 1)) (.cons (.var 4) (.cons (.var 5) .nil))))))  (.ret (.tup (.cons (.var 1) (.cons (.var 2) (.cons (.var 4) (.cons (.var 5) (.cons (.var 6) .nil)))))))))))))⟩
noncomputable def f_86 : Fn := ⟨[0, 1, 2, 3, 4, 5], 24, (.seq (.asgT [6, 7] (.tup (.cons (.meth (.var 0) 27 (.cons (.var 4) .nil)) (.cons (.meth (.var 0) 34 (.cons (.var 4) .nil)) .nil))))  (.seq (.ite (.cmp .NotIn (.var 7) (.tup (.cons (.cst (.str z_99)) (.cons (.cst (.str z_100)) .nil)))) (.seq (.ite (.cmp .GtE (.var 5) (.var 6)) (.ret (.lst .nil)) .skip)  (.seq (.ite (.cmp .Eq (.var 7) (.cst (.str z_105))) (.asg 8 (.meth (.var 0) 75 (.cons (.cst (.str z_95)) (.cons (.meth (.var 0) 71 (.cons (.cst (.int 0)) (.cons (.var 6) .nil))) (.cons (.var 2) .nil))))) (.ite (.cmp .Eq (.var 7) (.cst (.str z_96))) (.asg 8 (.call 83 (.cons (.var 0) (.cons (.var 2) (.cons (.var 3) (.cons (.ife (.cmp .Eq (.var 1) (.cst (.int 2))) (.cst (.int 2)) (.var 6)) .nil)))))) (.asg 8 (.call 84 (.cons (.var 0) (.cons (.var 2) (.cons (.var 3) (.cons (.cmp .Eq (.var 7) (.cst (.str z_97))) .nil))))))))  (.seq (.asgT [9, 10] (.tup (.cons (.meth (.var 0) 48 (.cons (.var 5) (.cons (.var 4) .nil))) (.cons (.meth (.var 0) 48 (.cons (.var 5) (.cons (.var 8) .nil))) .nil))))  (.ret (.lst (.cons (.lst (.cons (.bin .Sub (.cst (.int 0)) (.var 9)) (.cons (.var 10) .nil))) (.cons (.lst (.cons (.var 9) (.cons (.bin .Sub (.cst (.int 0)) (.var 10)) .nil))) .nil))))))) .skip)  (.seq (.asgT [11, 12, 13] (.tup (.cons (.meth (.var 0) 75 (.cons (.cst (.str z_99)) (.cons (.var 2) (.cons (.var 3) .nil)))) (.cons (.meth (.var 0) 75 (.cons (.cst (.str z_100)) (.cons (.var 2) (.cons (.var 3) .nil)))) (.cons (.meth (.var 0) 21 (.cons (.var 3) (.cons (.meth (.var 0) 71 (.cons (.cst (.int 0)) (.cons (.var 6) .nil))) .nil))) .nil)))))  (.seq (.ite (.cmp .Gt (.var 5) (.bin .Mult (.cst (.int 2)) (.var 6))) (.seq (.ite (.cmp .Gt (.var 5) (.bin .Mult (.cst (.int 3)) (.var 6))) (.ret (.lst .nil)) .skip)  (.seq (.asgT [14, 15, 16] (.comp (.meth (.var 0) 48 (.cons (.bin .Sub (.bin .Sub (.var 5) (.bin .Mult (.cst (.int 2)) (.var 6))) (.cst (.int 1))) (.cons (.var 22) .nil))) (.one 22) (.tup (.cons (.var 11) (.cons (.var 12) (.cons (.var 2) .nil)))) (.cst (.bool true))))  (.ret (.lst (.cons (.lst (.cons (.bin .Sub (.cst (.int 0)) (.var 13)) (.cons (.var 14) .nil))) (.cons (.lst (.cons (.bin .Sub (.cst (.int 0)) (.var 13)) (.cons (.bin .Sub (.cst (.int 0)) (.var 15)) (.cons (.var 16) .nil)))) (.cons (.lst (.cons (.bin .Sub (.cst (.int 0)) (.var 13)) (.cons (.var 15) (.cons (.bin .Sub (.cst (.int 0)) (.var 16)) .nil)))) .nil))))))) .skip)  (.seq (.ite (.cmp .Eq (.var 5) (.bin .Mult (.cst (.int 2)) (.var 6))) (.ret (.lst (.cons (.lst (.cons (.var 13) (.cons (.meth (.var 0) 75 (.cons (.cst (.str z_101)) (.cons (.var 12) (.cons (.var 3) .nil)))) .nil))) .nil))) .skip)  (.seq (.asg 17 (.comp (.meth (.var 0) 77 (.cons (.var 6) (.cons (.var 22) .nil))) (.one 22) (.tup (.cons (.var 11) (.cons (.var 3) (.cons (.var 12) (.cons (.var 2) .nil))))) (.cst (.bool true))))  (.seq (.asg 18 (.meth (.var 0) 75 (.cons (.cst (.str z_96)) (.cons (.sub (.var 17) (.cst (.int 0))) (.cons (.sub (.var 17) (.cst (.int 1))) .nil)))))  (.seq (.asg 19 (.meth (.var 0) 75 (.cons (.cst (.str z_94)) (.cons (.var 18) (.cons (.sub (.var 17) (.cst (.int 2))) .nil)))))  (.seq (.asgT [20, 21] (.tup (.cons (.meth (.var 0) 48 (.cons (.var 5) (.cons (.var 19) .nil))) (.cons (.meth (.var 0) 48 (.cons (.var 5) (.cons (.sub (.var 17) (.cst (.int 3))) .nil))) .nil))))  (.ret (.lst (.cons (.lst (.cons (.var 13) (.cons (.bin .Sub (.cst (.int 0)) (.var 20)) (.cons (.var 21) .nil)))) (.cons (.lst (.cons (.var 13) (.cons (.var 20) (.cons (.bin .Sub (.cst (.int 0)) (.var 21)) .nil)))) .nil)))))))))))))⟩
noncomputable def f_87 : Fn := ⟨[0, 1], 6, (.seq (.asgT [2, 3] (.tup (.cons (.call 81 (.cons (.var 0) (.cons (.cst (.int 5)) .nil))) (.cons (.call 81 (.cons (.var 0) (.cons (.bi .len (.cons (.var 1) .nil)) .nil))) .nil))))  (.seq (.ite (.cmp .Eq (.var 2) (.cst (.int 1))) (.ret (.tup (.cons (.rev (.var 1)) (.cons (.cst (.int 0)) .nil)))) .skip)  (.seq (.ite (.cmp .Eq (.var 2) (.cst (.int 2))) (.ret (.tup (.cons (.bin .Add (.slice (.var 1) (.cst .none) (.var 3)) (.slice (.var 1) (.bin .Add (.var 3) (.cst (.int 1))) (.cst .none))) (.cons (.cst (.int 0)) .nil)))) .skip)  (.seq (.ite (.cmp .Eq (.var 2) (.cst (.int 3))) (.ret (.tup (.cons (.bin .Add (.bin .Add (.slice (.var 1) (.cst .none) (.var 3)) (.lst (.cons (.bin .Sub (.cst (.int 0)) (.sub (.var 1) (.var 3))) .nil))) (.slice (.var 1) (.bin .Add (.var 3) (.cst (.int 1))) (.cst .none))) (.cons (.cst (.int 0)) .nil)))) .skip)  (.ret (.tup (.cons (.var 1) (.cons (.ife (.cmp .Eq (.var 2) (.cst (.int 4))) (.cst (.int 1)) (.cst (.int 0))) .nil))))))))⟩
noncomputable def f_88 : Fn := ⟨[0], 20, (.seq (.asg 1 (.dictH (.cons (.cst (.str z_140)) (.cons (.cst (.str z_139)) .nil)) (.cons (.bi .list (.cons (.slice (.var 0) (.cst .none) (.cst (.int 20))) .nil)) (.cons (.cst (.int 0)) .nil))))  (.seq (.asgT [2, 3, 4, 5, 6] (.call 85 (.cons (.var 1) .nil)))  (.seq (.asg 7 (.meth (.var 3) 27 (.cons (.var 6) .nil)))  (.seq (.asgT [8, 9] (.ife (.cmp .Gt (.var 2) (.cst (.int 4))) (.tup (.cons (.cst (.str z_136)) (.cons (.cst (.str z_135)) .nil))) (.tup (.cons (.cst (.str z_135)) (.cons (.cst (.str z_136)) .nil)))))  (.seq (.asg 10 (.call 81 (.cons (.var 1) (.cons (.ife (.cmp .Gt (.var 2) (.cst (.int 4))) (.bin .Add (.bin .Mult (.cst (.int 3)) (.var 7)) (.cst (.int 1))) (.var 7)) .nil))))  (.seq (.asg 11 (.call 86 (.cons (.var 3) (.cons (.var 2) (.cons (.var 4) (.cons (.var 5) (.cons (.var 6) (.cons (.var 10) .nil))))))))  (.seq (.asgT [12, 13] (.call 87 (.cons (.var 1) (.cons (.sub (.var 11) (.call 81 (.cons (.var 1) (.cons (.bi .len (.cons (.var 11) .nil)) .nil)))) .nil))))  (.seq (.asg 14 (.call 86 (.cons (.var 3) (.cons (.var 2) (.cons (.var 4) (.cons (.var 5) (.cons (.var 6) (.cons (.bin .Add (.var 10) (.var 13)) .nil))))))))  (.seq (.asg 15 (.ife (.cmp .NotEq (.comp (.cst (.int 1)) (.one 18) (.var 14) (.cmp .Eq (.bi .sorted (.cons (.var 18) .nil)) (.bi .sorted (.cons (.var 12) .nil)))) (.lst .nil)) (.cst (.str z_127)) (.cst (.str z_138))))  (.seq (.asg 16 (.new 1 (.cons (.var 3) .nil)))  (.seq (.asg 17 (.lst (.cons (.meth (.var 16) 79 (.cons (.bi .tuple (.cons (.var 12) .nil)) (.cons (.tup (.cons (.var 6) (.cons (.bin .Add (.var 10) (.var 13)) (.cons (.var 8) .nil)))) .nil))) (.cons (.meth (.var 16) 79 (.cons (.bi .tuple (.cons (.var 12) .nil)) (.cons (.tup (.cons (.var 6) (.cons (.bin .Add (.var 10) (.var 13)) (.cons (.var 9) .nil)))) .nil))) .nil))))  (.ret (.cmp .Eq (.var 17) (.lst (.cons (.var 15) (.cons (.cst (.str z_134)) .nil))))))))))))))))⟩
noncomputable def fns0 : List Fn := [f_0, f_1, f_2, f_3, fbad, fbad, fbad, fbad, fbad, fbad, fbad, fbad, f_12, fbad, f_14, f_15, f_16, f_17, fbad, fbad, f_20, f_21, f_22, f_23, f_24, fbad, f_26, fbad, f_28, f_29, fbad, fbad, fbad, fbad, fbad, f_35, f_36, f_37, f_38, f_39, f_40, f_41, f_42, f_43, f_44, fbad, fbad, f_47, fbad, fbad, f_50, f_51, fbad, f_53, fbad, fbad, fbad, fbad, fbad, fbad, fbad, fbad, fbad, fbad, fbad, fbad, fbad, f_67, fbad, f_69, f_70, f_71, f_72, f_73, f_74, f_75, fbad, fbad, fbad, fbad, fbad, f_81, f_82, f_83, f_84, f_85, f_86, f_87, f_88]
noncomputable def cls0 : List Addr := [672, 887]
noncomputable def T0 (l : List Int) : Tb := ⟨names0, cls0, l⟩
noncomputable def tab0 : List (Addr × TabE) := [(28, .inl []), (35, .inl []), (42, .inl []), (49, .inl [z_144]), (65, .inr none), (72, .inr none), (92, .inr none), (111, .inr none), (123, .inr none), (130, .inr none), (137, .inr none), (144, .inr none), (160, .inl []), (188, .inr none), (202, .inl []), (216, .inl []), (251, .inl []), (258, .inl []), (265, .inr none), (272, .inr none), (279, .inl []), (286, .inl []), (293, .inl []), (300, .inl []), (314, .inl []), (321, .inr none), (328, .inl []), (412, .inr none), (419, .inl []), (433, .inl []), (440, .inr none), (480, .inr none), (487, .inr none), (501, .inr none), (522, .inr none), (571, .inr (some f_35)), (578, .inl []), (585, .inl []), (592, .inl []), (599, .inl []), (606, .inl []), (613, .inl []), (620, .inl []), (627, .inl []), (634, .inl []), (641, .inr none), (648, .inr none), (655, .inl []), (662, .inr none), (669, .inr none), (690, .inl []), (697, .inl []), (704, .inr none), (711, .inl []), (718, .inr none), (725, .inr none), (732, .inr none), (739, .inr none), (746, .inr none), (753, .inr none), (760, .inr none), (767, .inr none), (774, .inr none), (779, .inr none), (786, .inr none), (791, .inr none), (798, .inr none), (805, .inl [z_145]), (810, .inr none), (817, .inl []), (824, .inl []), (831, .inl []), (838, .inl []), (845, .inl []), (850, .inl []), (855, .inl []), (860, .inr none), (865, .inr none), (870, .inr none), (877, .inr none), (884, .inr none), (899, .inl []), (906, .inl []), (913, .inl []), (920, .inl []), (927, .inl []), (932, .inl []), (939, .inl []), (944, .inl [])]
noncomputable def fa0 : List Addr := tab0.map (·.1)
noncomputable abbrev p0 : Program := PySem.Challenge.pw_no0028_02
noncomputable abbrev q0 : Program := view p0 [41]
noncomputable def loose0 : List Str := [Str.ofString "_wall", Str.ofString "is_number", Str.ofString "is_tuple_of", Str.ofString "are_same_sets", Str.ofString "without_doubles", Str.ofString "SmtError", Str.ofString "SortFault", Str.ofString "LimitFault", Str.ofString "gcd_of", Str.ofString "ratio", Str.ofString "mul", Str.ofString "is_whole", Str.ofString "BOOL", Str.ofString "INT", Str.ofString "REAL", Str.ofString "WIDEST", Str.ofString "BV_SAME", Str.ofString "BV_ASK", Str.ofString "Bank", Str.ofString "BoolBank", Str.ofString "NumberBank", Str.ofString "TermBank", Str.ofString "MOST_ATOMS", Str.ofString "MOST_WORLDS", Str.ofString "EXPANDED", Str.ofString "QUOTIENTS", Str.ofString "BitJudge", Str.ofString "_law_ops", Str.ofString "_law_next", Str.ofString "_law_moved", Str.ofString "_law_product", Str.ofString "_law_shift", Str.ofString "_law_scene", Str.ofString "_law_lines", Str.ofString "_law_bent"]
noncomputable def at0 : List Addr := [3, 672, 887, 671, 886, 553, 552, 464, 463, 359, 358, 2, 570, 559, 145, 146, 675, 676, 892] ++ fa0
noncomputable def top0 (w : World) (os : OsState) : Option SharedT := topRunQ p0 w 11 (some (.ref 6)) 11900 (bootS w os) (topStub p0)
noncomputable def chkA (w : World) (st : SharedT) : Bool := staticsOk (importedModules p0.main.body) (boot_heap w.params) st.abs.heap && namesBound p0 st.abs.heap && gensDone st.abs && laidKept (boot_heap w.params) st.abs.heap
noncomputable def K0 (st : SharedT) : Frag := fragT st.tree st.n at0
noncomputable def chkK (K : Frag) : Bool := globChk K G0 fa0 cls0 && clsChk K P0 fa0 names0 cls0 0 && (fa0.all fun a => isFn K (.ref a) && keepIn K (.ref a)) && lenChk K 944 && kRef (nsIn K mainGlobals "law") 944
noncomputable def iniK (K : Frag) : Option Fn := initFn K G0 672 160 12 2 571
end
end Mine
namespace Mine
open PySem PySem.W PyProof.Rows
noncomputable def b88 : S := match f_88.body with
  | .seq _ b => b
  | _ => .bad
noncomputable def rw88 : Rho := (rho0 20).set 1 (some (.ref 0))
noncomputable def ok02 (ds : List (Int × Int)) : Bool := match svR P0 (runX P0 (fun f => fns0[f]?) [85, 87] 81 ds 20) b88 rw88 [.feed 0] with
  | some (.ret (.bool true), _, _) => true
  | _ => false
noncomputable def wNat : Nat → Nat
  | 0 => 7
  | 2 => 5
  | 7 => 7
  | _ => 4
noncomputable def mNat (a : Nat) : Nat := if Nat.blt 4 a then 3 * wNat a + 1 else wNat a
noncomputable def lNat (a i : Nat) : Nat := if Nat.blt 4 a then (if Nat.blt (2 * wNat a) i then 3 else if Nat.beq (2 * wNat a) i then 1 else 2) else 2
noncomputable def nNat (a i x : Nat) : Nat := if Nat.blt 4 a then (if Nat.blt (2 * wNat a) i then (if Nat.beq x 0 then 2 else 3) else if Nat.beq (2 * wNat a) i then 2 else 3) else 2
noncomputable def allN (f : Nat → Bool) : Nat → Bool
  | 0 => true
  | n + 1 => f n && allN f n
noncomputable def grp (a i : Nat) : Bool := allN (fun x => allN (fun t => allN (fun s => ok02 [(8, a), (mNat a, i), (lNat a i, x), (5, t), (nNat a i x, s)]) (nNat a i x)) 5) (lNat a i)
end Mine
namespace Mine
open PySem PySem.W PyProof.Rows
theorem g_0_0 : grp 0 0 = true := by kernel_rfl
theorem g_0_1 : grp 0 1 = true := by kernel_rfl
theorem g_0_2 : grp 0 2 = true := by kernel_rfl
theorem g_0_3 : grp 0 3 = true := by kernel_rfl
theorem g_0_4 : grp 0 4 = true := by kernel_rfl
theorem g_0_5 : grp 0 5 = true := by kernel_rfl
theorem g_0_6 : grp 0 6 = true := by kernel_rfl
theorem g_1_0 : grp 1 0 = true := by kernel_rfl
theorem g_1_1 : grp 1 1 = true := by kernel_rfl
theorem g_1_2 : grp 1 2 = true := by kernel_rfl
theorem g_1_3 : grp 1 3 = true := by kernel_rfl
theorem g_2_0 : grp 2 0 = true := by kernel_rfl
theorem g_2_1 : grp 2 1 = true := by kernel_rfl
theorem g_2_2 : grp 2 2 = true := by kernel_rfl
theorem g_2_3 : grp 2 3 = true := by kernel_rfl
theorem g_2_4 : grp 2 4 = true := by kernel_rfl
theorem g_3_0 : grp 3 0 = true := by kernel_rfl
theorem g_3_1 : grp 3 1 = true := by kernel_rfl
theorem g_3_2 : grp 3 2 = true := by kernel_rfl
theorem g_3_3 : grp 3 3 = true := by kernel_rfl
theorem g_4_0 : grp 4 0 = true := by kernel_rfl
theorem g_4_1 : grp 4 1 = true := by kernel_rfl
theorem g_4_2 : grp 4 2 = true := by kernel_rfl
theorem g_4_3 : grp 4 3 = true := by kernel_rfl
theorem g_5_0 : grp 5 0 = true := by kernel_rfl
theorem g_5_1 : grp 5 1 = true := by kernel_rfl
theorem g_5_2 : grp 5 2 = true := by kernel_rfl
theorem g_5_3 : grp 5 3 = true := by kernel_rfl
theorem g_5_4 : grp 5 4 = true := by kernel_rfl
theorem g_5_5 : grp 5 5 = true := by kernel_rfl
theorem g_5_6 : grp 5 6 = true := by kernel_rfl
theorem g_5_7 : grp 5 7 = true := by kernel_rfl
theorem g_5_8 : grp 5 8 = true := by kernel_rfl
theorem g_5_9 : grp 5 9 = true := by kernel_rfl
theorem g_5_10 : grp 5 10 = true := by kernel_rfl
theorem g_5_11 : grp 5 11 = true := by kernel_rfl
theorem g_5_12 : grp 5 12 = true := by kernel_rfl
theorem g_6_0 : grp 6 0 = true := by kernel_rfl
theorem g_6_1 : grp 6 1 = true := by kernel_rfl
theorem g_6_2 : grp 6 2 = true := by kernel_rfl
theorem g_6_3 : grp 6 3 = true := by kernel_rfl
theorem g_6_4 : grp 6 4 = true := by kernel_rfl
theorem g_6_5 : grp 6 5 = true := by kernel_rfl
theorem g_6_6 : grp 6 6 = true := by kernel_rfl
theorem g_6_7 : grp 6 7 = true := by kernel_rfl
theorem g_6_8 : grp 6 8 = true := by kernel_rfl
theorem g_6_9 : grp 6 9 = true := by kernel_rfl
theorem g_6_10 : grp 6 10 = true := by kernel_rfl
theorem g_6_11 : grp 6 11 = true := by kernel_rfl
theorem g_6_12 : grp 6 12 = true := by kernel_rfl
theorem g_7_0 : grp 7 0 = true := by kernel_rfl
theorem g_7_1 : grp 7 1 = true := by kernel_rfl
theorem g_7_2 : grp 7 2 = true := by kernel_rfl
theorem g_7_3 : grp 7 3 = true := by kernel_rfl
theorem g_7_4 : grp 7 4 = true := by kernel_rfl
theorem g_7_5 : grp 7 5 = true := by kernel_rfl
theorem g_7_6 : grp 7 6 = true := by kernel_rfl
theorem g_7_7 : grp 7 7 = true := by kernel_rfl
theorem g_7_8 : grp 7 8 = true := by kernel_rfl
theorem g_7_9 : grp 7 9 = true := by kernel_rfl
theorem g_7_10 : grp 7 10 = true := by kernel_rfl
theorem g_7_11 : grp 7 11 = true := by kernel_rfl
theorem g_7_12 : grp 7 12 = true := by kernel_rfl
theorem g_7_13 : grp 7 13 = true := by kernel_rfl
theorem g_7_14 : grp 7 14 = true := by kernel_rfl
theorem g_7_15 : grp 7 15 = true := by kernel_rfl
theorem g_7_16 : grp 7 16 = true := by kernel_rfl
theorem g_7_17 : grp 7 17 = true := by kernel_rfl
theorem g_7_18 : grp 7 18 = true := by kernel_rfl
theorem g_7_19 : grp 7 19 = true := by kernel_rfl
theorem g_7_20 : grp 7 20 = true := by kernel_rfl
theorem g_7_21 : grp 7 21 = true := by kernel_rfl
theorem ga_0 : ∀ i, i < 7 → grp 0 i = true
  | 0, _ => g_0_0
  | 1, _ => g_0_1
  | 2, _ => g_0_2
  | 3, _ => g_0_3
  | 4, _ => g_0_4
  | 5, _ => g_0_5
  | 6, _ => g_0_6
  | i + 7, h => absurd h (by omega)
theorem ga_1 : ∀ i, i < 4 → grp 1 i = true
  | 0, _ => g_1_0
  | 1, _ => g_1_1
  | 2, _ => g_1_2
  | 3, _ => g_1_3
  | i + 4, h => absurd h (by omega)
theorem ga_2 : ∀ i, i < 5 → grp 2 i = true
  | 0, _ => g_2_0
  | 1, _ => g_2_1
  | 2, _ => g_2_2
  | 3, _ => g_2_3
  | 4, _ => g_2_4
  | i + 5, h => absurd h (by omega)
theorem ga_3 : ∀ i, i < 4 → grp 3 i = true
  | 0, _ => g_3_0
  | 1, _ => g_3_1
  | 2, _ => g_3_2
  | 3, _ => g_3_3
  | i + 4, h => absurd h (by omega)
theorem ga_4 : ∀ i, i < 4 → grp 4 i = true
  | 0, _ => g_4_0
  | 1, _ => g_4_1
  | 2, _ => g_4_2
  | 3, _ => g_4_3
  | i + 4, h => absurd h (by omega)
theorem ga_5 : ∀ i, i < 13 → grp 5 i = true
  | 0, _ => g_5_0
  | 1, _ => g_5_1
  | 2, _ => g_5_2
  | 3, _ => g_5_3
  | 4, _ => g_5_4
  | 5, _ => g_5_5
  | 6, _ => g_5_6
  | 7, _ => g_5_7
  | 8, _ => g_5_8
  | 9, _ => g_5_9
  | 10, _ => g_5_10
  | 11, _ => g_5_11
  | 12, _ => g_5_12
  | i + 13, h => absurd h (by omega)
theorem ga_6 : ∀ i, i < 13 → grp 6 i = true
  | 0, _ => g_6_0
  | 1, _ => g_6_1
  | 2, _ => g_6_2
  | 3, _ => g_6_3
  | 4, _ => g_6_4
  | 5, _ => g_6_5
  | 6, _ => g_6_6
  | 7, _ => g_6_7
  | 8, _ => g_6_8
  | 9, _ => g_6_9
  | 10, _ => g_6_10
  | 11, _ => g_6_11
  | 12, _ => g_6_12
  | i + 13, h => absurd h (by omega)
theorem ga_7 : ∀ i, i < 22 → grp 7 i = true
  | 0, _ => g_7_0
  | 1, _ => g_7_1
  | 2, _ => g_7_2
  | 3, _ => g_7_3
  | 4, _ => g_7_4
  | 5, _ => g_7_5
  | 6, _ => g_7_6
  | 7, _ => g_7_7
  | 8, _ => g_7_8
  | 9, _ => g_7_9
  | 10, _ => g_7_10
  | 11, _ => g_7_11
  | 12, _ => g_7_12
  | 13, _ => g_7_13
  | 14, _ => g_7_14
  | 15, _ => g_7_15
  | 16, _ => g_7_16
  | 17, _ => g_7_17
  | 18, _ => g_7_18
  | 19, _ => g_7_19
  | 20, _ => g_7_20
  | 21, _ => g_7_21
  | i + 22, h => absurd h (by omega)
theorem g_all : ∀ a i, a < 8 → i < mNat a → grp a i = true
  | 0, i, _, h => ga_0 i h
  | 1, i, _, h => ga_1 i h
  | 2, i, _, h => ga_2 i h
  | 3, i, _, h => ga_3 i h
  | 4, i, _, h => ga_4 i h
  | 5, i, _, h => ga_5 i h
  | 6, i, _, h => ga_6 i h
  | 7, i, _, h => ga_7 i h
  | a + 8, i, h, _ => absurd h (by omega)
end Mine
namespace Mine
open PySem PySem.W PyProof.Rows
noncomputable def q81 : E := (.bin .Add (.bin .Add (.bin .Add (.bin .Mult (.bin .Mult (.cst (.int 9)) (.var 2)) (.var 2)) (.bin .Mult (.cst (.int 4)) (.var 2))) (.bi .len (.cons (.sub (.var 0) (.cst (.str s_cells))) .nil))) (.cst (.int 6)))
theorem f81_eq : f_81 = fnx q81 79 := rfl
noncomputable def qv (l : List Int) (k : Nat) : Int := 9 * k * k + 4 * k + l.length + 6
theorem mul_ok {H : Hp} {a b : Int} (ha : a.natAbs < 18446744073709551616) (hb : b.natAbs < 18446744073709551616) : binop H .Mult (.int a) (.int b) = some (.int (a * b)) := by
  show ifO (small a && small b) (V.int (a * b)) = _
  unfold small
  rw [Nat.blt_eq.mpr ha, Nat.blt_eq.mpr hb]
  rfl
theorem q81_ev {P : Pg} {C : CallT} {l : List Int} {i k : Nat} {wide : Int} (hl : l.length ≤ 64) (hk : k < 64) (H' : Hp) (hi' : H'[i]? = some (.dict (feedD l (k + 1)))) : evE P C q81 (rk i wide k) H' = some (.int (qv l k), H') := by
  have hlen : (l.map V.int).length ≤ cap := by rw [List.length_map]; unfold cap; omega
  have e3 : evE P C (.bi .len (.cons (.sub (.var 0) (.cst (.str s_cells))) .nil)) (rk i wide k) H' = some (.int l.length, H') := by
    show (match (match (subOp H' (V.ref i) (.str s_cells)).map (fun v => (v, H')) with | some (v, H) => some (V.lst [v], H) | Option.none => Option.none) with
      | some (.lst l, H) => (biop H .len l).map fun v => (v, H)
      | _ => Option.none) = _
    rw [sub_cells hi']
    simp only [Option.map_some, biop_len hlen, List.length_map]
  have m1 : binop H' .Mult (.int 9) (.int k) = some (.int (9 * k)) := mul_ok (by decide) (by omega)
  have m2 : binop H' .Mult (.int (9 * k)) (.int k) = some (.int (9 * k * k)) := mul_ok (by omega) (by omega)
  have m3 : binop H' .Mult (.int 4) (.int k) = some (.int (4 * k)) := mul_ok (by decide) (by omega)
  have k2 : evE P C (.var 2) (rk i wide k) H' = some (.int k, H') := rfl
  have k9 : evE P C (.bin .Mult (.cst (.int 9)) (.var 2)) (rk i wide k) H' = some (.int (9 * k), H') := by
    show (binop H' .Mult (.int 9) (.int k)).map (fun v => (v, H')) = _
    rw [m1]; rfl
  have k99 : evE P C (.bin .Mult (.bin .Mult (.cst (.int 9)) (.var 2)) (.var 2)) (rk i wide k) H' = some (.int (9 * k * k), H') := by
    show (match evE P C (.bin .Mult (.cst (.int 9)) (.var 2)) (rk i wide k) H' with | some (x, H) => (binop H .Mult x (.int k)).map (fun v => (v, H)) | Option.none => Option.none) = _
    rw [k9]; dsimp only; rw [m2]; rfl
  have k4 : evE P C (.bin .Mult (.cst (.int 4)) (.var 2)) (rk i wide k) H' = some (.int (4 * k), H') := by
    show (binop H' .Mult (.int 4) (.int k)).map (fun v => (v, H')) = _
    rw [m3]; rfl
  show (match (match (match evE P C (.bin .Mult (.bin .Mult (.cst (.int 9)) (.var 2)) (.var 2)) (rk i wide k) H' with | some (x, H) => (match evE P C (.bin .Mult (.cst (.int 4)) (.var 2)) (rk i wide k) H with | some (y, H) => (binop H .Add x y).map (fun v => (v, H)) | Option.none => Option.none) | Option.none => Option.none) with
    | some (x, H) => (match evE P C (.bi .len (.cons (.sub (.var 0) (.cst (.str s_cells))) .nil)) (rk i wide k) H with | some (y, H) => (binop H .Add x y).map (fun v => (v, H)) | Option.none => Option.none) | Option.none => Option.none) with
    | some (x, H) => (binop H .Add x (.int 6)).map (fun v => (v, H)) | Option.none => Option.none) = _
  rw [k99]; dsimp only; rw [k4]; dsimp only [binop, addV, int1, Option.map]; rw [e3]; rfl
noncomputable def dr81 : List Int → Nat → Int → Int := drq qv 79
theorem ev81 {P : Pg} {C : CallT} {l : List Int} (hl : l.length ≤ 64) (i k : Nat) (wide : Int) (H : Hp) (hi : H[i]? = some (.dict (feedD l k))) (hw : wide ≠ 0) (hk : k < 64) :
    evF P C f_81 [.ref i, .int wide] H = some (.int (dr81 l k wide), H.set i (.dict (feedD l (k + 1)))) := by
  rw [f81_eq]
  exact fnx_ev hl hi hw hk (by decide) fun H' hi' => q81_ev hl hk H' hi'
theorem dr_lt (l : List Int) (k : Nat) {n : Nat} (hn : 0 < n) : ∃ m : Nat, m < n ∧ dr81 l k n = m := by
  have hp : (0 : Int) < n := by omega
  have key : ∀ a : Int, ∃ m : Nat, m < n ∧ a.fmod n = m := fun a => by
    have h1 := Int.fmod_nonneg_of_pos a hp
    have h2 := Int.fmod_lt_of_pos a hp
    exact ⟨(a.fmod n).toNat, by omega, by omega⟩
  unfold dr81 drq
  split <;> exact key _
end Mine
namespace Mine
open PySem PySem.W PyProof.Rows
theorem allN_of {f : Nat → Bool} : ∀ {n : Nat}, allN f n = true → ∀ k, k < n → f k = true
  | 0, _, k, hk => absurd hk (by omega)
  | n + 1, h, k, hk => by
    unfold allN at h
    rw [Bool.and_eq_true] at h
    by_cases q : k = n
    · subst q; exact h.1
    · exact allN_of h.2 k (by omega)
theorem m_pos {a : Nat} : 0 < mNat a := by
  have hw : 0 < wNat a := by unfold wNat; split <;> omega
  unfold mNat; split <;> omega
theorem l_pos {a i : Nat} : 0 < lNat a i := by
  unfold lNat; split
  · split
    · omega
    · split <;> omega
  · omega
theorem n_pos {a i x : Nat} : 0 < nNat a i x := by
  unfold nNat; split
  · split
    · split <;> omega
    · split <;> omega
  · omega
theorem draws_ok (l : List Int) {a m i k x n sp : Nat} (hm : 0 < m) (hk : 0 < k) (hn : 0 < n) {t : Nat} (h0 : dr81 l 0 8 = a) (h1 : dr81 l 1 m = i) (h2 : dr81 l 2 k = x) (h3 : dr81 l 3 5 = t) (h4 : dr81 l 4 n = sp) :
    DrawOk l dr81 64 [(8, a), (m, i), (k, x), (5, t), (n, sp)] := by
  intro j wd d hj
  match j, hj with
  | 0, hj => cases hj; exact ⟨by decide, by omega, h0.symm⟩
  | 1, hj => cases hj; exact ⟨by omega, by omega, h1.symm⟩
  | 2, hj => cases hj; exact ⟨by omega, by omega, h2.symm⟩
  | 3, hj => cases hj; exact ⟨by decide, by omega, h3.symm⟩
  | 4, hj => cases hj; exact ⟨by omega, by omega, h4.symm⟩
  | j + 5, hj => simp at hj
theorem ok_all (l : List Int) : ∃ ds, DrawOk l dr81 64 ds ∧ ok02 ds = true := by
  obtain ⟨a, ha, h0⟩ := dr_lt l 0 (n := 8) (by omega)
  obtain ⟨i, hi, h1⟩ := dr_lt l 1 (n := mNat a) m_pos
  obtain ⟨x, hx, h2⟩ := dr_lt l 2 (n := lNat a i) l_pos
  obtain ⟨t, ht, h3⟩ := dr_lt l 3 (n := 5) (by omega)
  obtain ⟨sp, hs, h4⟩ := dr_lt l 4 (n := nNat a i x) n_pos
  exact ⟨_, draws_ok l m_pos l_pos n_pos h0 h1 h2 h3 h4, allN_of (allN_of (allN_of (g_all a i ha hi) x hx) t ht) sp hs⟩
noncomputable def a88 : S := match f_88.body with
  | .seq a _ => a
  | _ => .bad
theorem f88_eq : f_88 = ⟨[0], 20, .seq a88 b88⟩ := rfl
theorem first88 {P : Pg} {C : CallT} (zs : List Int) (hl : zs.length ≤ 63) : evS P C a88 ((rho0 20).set 0 (some (.lst (zs.map .int)))) [] =
    some (.next, ((rho0 20).set 0 (some (.lst (zs.map .int)))).set 1 (some (.ref 0)), [.dict (feedD (zs.take 20) 0)]) := by
  have hc : sliceOp [] (.lst (zs.map V.int)) .none (.int 20) = some (.lst ((zs.take 20).map .int)) := by
    show (if Nat.ble (zs.map V.int).length cap then (cut (zs.map V.int) .none (.int 20)).map V.lst else Option.none) = _
    have : Nat.ble (zs.map V.int).length cap = true := by rw [Nat.ble_eq, List.length_map]; unfold cap; omega
    rw [this, if_pos rfl]
    show some (V.lst ((zs.map V.int).take 20)) = _
    rw [List.map_take]
  have hs : evE P C (.bi .list (.cons (.slice (.var 0) (.cst .none) (.cst (.int 20))) .nil)) ((rho0 20).set 0 (some (.lst (zs.map .int)))) [] = some (.lst ((zs.take 20).map .int), []) := by
    show (match (match (sliceOp [] (.lst (zs.map V.int)) .none (.int 20)).map (fun v => (v, ([] : Hp))) with | some (v, H) => some (V.lst [v], H) | Option.none => Option.none) with
      | some (.lst l, H) => (biop H .list l).map fun v => (v, H)
      | _ => Option.none) = _
    rw [hc]
    have hb : ∀ r : List V, r.length ≤ cap → biop [] .list [.lst r] = some (.lst r) := fun r h => by
      show ifO (Nat.ble r.length cap) (V.lst r) = _
      rw [Nat.ble_eq.mpr h]
      rfl
    have hn : ((zs.take 20).map V.int).length ≤ cap := by rw [List.length_map, List.length_take]; unfold cap; omega
    simp only [Option.map_some, hb _ hn]
  have hv : evE P C (.cons (.bi .list (.cons (.slice (.var 0) (.cst .none) (.cst (.int 20))) .nil)) (.cons (.cst (.int 0)) .nil)) ((rho0 20).set 0 (some (.lst (zs.map .int)))) [] = some (.lst [.lst ((zs.take 20).map .int), .int 0], []) := by
    show (match evE P C (.bi .list (.cons (.slice (.var 0) (.cst .none) (.cst (.int 20))) .nil)) ((rho0 20).set 0 (some (.lst (zs.map .int)))) [] with
      | some (v, H) => some (V.lst [v, .int 0], H)
      | Option.none => Option.none) = _
    rw [hs]
  show (match (match evE P C (.cons (.bi .list (.cons (.slice (.var 0) (.cst .none) (.cst (.int 20))) .nil)) (.cons (.cst (.int 0)) .nil)) ((rho0 20).set 0 (some (.lst (zs.map .int)))) [] with
      | some (.lst v, H) => some (V.ref H.length, H ++ [O.dict (mkDict [.str s_cells, .str s_spot] v [])])
      | _ => Option.none) with
    | some (v, H) => some (R.next, ((rho0 20).set 0 (some (.lst (zs.map .int)))).set 1 (some v), H)
    | Option.none => Option.none) = _
  rw [hv]
  rfl
end Mine
namespace Mine
open PySem PySem.W PyProof.Rows
noncomputable def GoodH (h : Heap) : Prop := ∃ K : Frag, K.In h ∧ chkK K = true ∧ iniK K = some f_35 ∧ TabAt h G0 tab0 fns0
theorem GoodH.keeps {h h' : Heap} (x : GoodH h) (k : ∀ b o, h.get? b = some o → h'.get? b = some o) : GoodH h' := by
  obtain ⟨K, a, b, c, d⟩ := x
  exact ⟨K, a.keeps k, b, c, d.keeps k⟩
theorem names0_ok : noDupS names0 = true := by kernel_rfl
theorem co_none {prog : Program} {w : World} {T : Tb} {base : Heap} {fa : List Addr} (m : Nat) : CO prog w T base fa m (fun _ _ _ => none) := fun A hb f a l H v H' σ s vals ha e => nomatch e
theorem f88_body : f_88.body = .seq a88 b88 := rfl
set_option tactic.hygienic true in
theorem law_done {prog : Program} {w : World} {s : Shared} {p : Program} {loose : List Str} {mean : ExcName → Option Value} {mg mb : Str → Option Value} (X0 : GoodH s.heap) (Tp : Top p loose mean mg mb s.heap)
    (hfile : prog.main.file = ("/claim/cut.py" : String)) (htop : (prog.main.scope.names.lookup ("super" : Str)).isSome = false) {zs : List Int} (hlen : zs.length ≤ 63) {a : Addr} {vals : List Value} {as : List Addr}
    (hL : s.heap.IsList a vals.toArray) (ra : ReadsAll s.heap vals (zs.map PyData.int) as) :
    codeAny (model prog w) callerA (.call (.ref 944) ⟨[.ref a], []⟩) (fun r s' => r = .ok (.ret (.bool true)) ∧ (∀ b o, s.heap.get? b = some o → s'.heap.get? b = some o) ∧ s'.os = s.os ∧ s'.gens = s.gens) s := by
  obtain ⟨K, X, hchk, hini, htab⟩ := X0
  unfold chkK at hchk
  simp only [Bool.and_eq_true] at hchk
  obtain ⟨⟨⟨⟨c1, c2⟩, c3⟩, c4⟩, c5⟩ := hchk
  have W : Wd prog w K (T0 (zs.take 20)) s.heap P0 fa0 G0 := wd_of X (topRead_of Tp) c1 c2 (by rw [c3]) names0_ok rfl rfl
  have hR := co_all W (htab.fine rfl (sp := [(571, f_35)]) rfl (by
    intro p hp
    rw [List.mem_singleton.mp hp]
    exact init_fine W Tp hini rfl rfl hfile htop))
  obtain ⟨fd, hl, body, FA, FO⟩ := htab.entry (f := 81) rfl rfl
  obtain ⟨ds, hds, hok⟩ := ok_all (zs.take 20)
  have hnx := hnx_of (fa := fa0) (P := P0) W FA FO (T := T0 (zs.take 20)) hds (C := fun _ _ _ => none) co_none fun i k wide H hi hw hk => ev81 (by show (zs.take 20).length ≤ 64; rw [List.length_take]; omega) i k wide H hi hw hk
  have hX := co_x W (fl := fns0) (fns := fun f => fns0[f]?) (fun _ => rfl) (via := [85, 87]) (nx := 81) (ds := ds) hR hnx (by
    intro f a fn hv ha hf
    have hv : f = 85 ∨ f = 87 := by
      simp only [List.any_cons, List.any_nil, Bool.or_false, Bool.or_eq_true] at hv
      exact hv.imp Nat.eq_of_beq_eq_true Nat.eq_of_beq_eq_true
    rcases hv with rfl | rfl
    · cases ha; cases hf; exact htab.entry (f := 85) rfl rfl
    · cases ha; cases hf; exact htab.entry (f := 87) rfl rfl)
  obtain ⟨fd8, hl8, body8, FA8, FO8, two⟩ := htab.entry2 X (f := 88) rfl rfl c4
  obtain ⟨ρ2, H1, hrun⟩ : ∃ ρ2 H1, evS P0 (runX P0 (fun f => fns0[f]?) [85, 87] 81 ds 20) b88 rw88 [.feed 0] = some (.ret (.bool true), ρ2, H1) := by
    unfold ok02 at hok
    rw [svR_eq] at hok
    split at hok
    · rename_i q; exact ⟨_, _, q⟩
    · (first | exact nosome hok | exact nofalse hok | cases hok)
  have I : Inv (T0 (zs.take 20)) w s.heap [] [] s.heap := inv_start (topRead_of Tp)
  have hv : VRs s.heap [] [.lst (zs.map .int)] [.ref a] := ⟨_, _, rfl, ⟨a, _, rfl, hL, (fun ⟨x, hx⟩ => by simp at hx), by simpa using ints_of ra⟩, rfl⟩
  refine codeAny_mono (law_code2 W (hX 20) FA8 FO8 (by refine ⟨?_, ?_, rfl⟩ <;> decide +kernel) f88_body two (show setAll [0] [.lst (zs.map .int)] (rho0 20) = some ((rho0 20).set 0 (some (.lst (zs.map .int)))) from rfl)
    (first88 zs hlen) ?_ hrun I hv) ?_
  · intro i v hi
    unfold rw88 at hi
    by_cases q : i = 1
    · subst q
      (first | exact nosome hi | exact nofalse hi | cases hi)
      rfl
    · rw [List.getElem?_set_ne (Ne.symm q)] at hi
      exact absurd hi (rho0_none _ _ _)
  · rintro r s' ⟨val, rfl, σ', st, I', hval⟩
    (first | exact nosome hval | exact nofalse hval | cases hval)
    exact ⟨rfl, I'.stays, st.os, st.gens⟩
theorem mg_law {h : Heap} {mg : Str → Option Value} (X : GoodH h) (g : h.Ns mainGlobals mg) : mg "law" = some (.ref 944) := by
  obtain ⟨K, X, hchk, _⟩ := X
  unfold chkK at hchk
  rw [Bool.and_eq_true] at hchk
  exact mg_of X g (kRef_ok hchk.2)
theorem op0 : opening p0 = plainProg p0.main.scope.names := by kernel_rfl
theorem fe0 (s : Shared) : fenceModules? p0 s = some s := by kernel_rfl
noncomputable def dL : DefRec := ((recsOf q0).head?).getD ⟨default, default, default, default, default⟩
theorem def0 : defOf q0 "law" = some (dL, []) := by kernel_rfl
theorem def1 : p0.theDef "law" = some (dL.params, dL.body, dL.scope) := by kernel_rfl
theorem def2 : kwWritten? dL.params.kwonlyargs dL.params.kw_defaults = some [] := by kernel_rfl
theorem said1 : PySem.W.Fast.tw9446332074065402090 PySem.Challenge.rw_no0028_02 = true := by kernel_rfl
theorem said0 : PySem.Challenge.rw_no0028_02.wellSaid = true := (congrFun PySem.W.Fast.te9446332074065402090 _).trans said1
end Mine
namespace Mine
open PySem PySem.W PyProof.Rows
theorem chk_A (w : World) (os : OsState) : (top0 w os).map (fun st => (chkA w st, PySem.W.Fast.tw4187177175401517315 q0 loose0 (importedModules p0.main.body) (fun _ => true) true st.abs)) = some (true, openGood q0 loose0) := by kernel_rfl
theorem chk_C (w : World) (os : OsState) : (top0 w os).map (fun st => (chkK (K0 st), iniK (K0 st))) = some (true, some f_35) := by kernel_rfl
theorem chk_D (w : World) (os : OsState) : (top0 w os).map (fun st => (tab0.all (okA st.tree st.n), tab0.map (cA st.tree st.n G0))) = some (true, fns0.map some) := by kernel_rfl
theorem good0 (w : World) (os : OsState) : ∃ st, top0 w os = some st ∧ chkA w st = true ∧
      PySem.W.Fast.tw4187177175401517315 q0 loose0 (importedModules p0.main.body) (fun _ => true) true st.abs = openGood q0 loose0 ∧ GoodH st.abs.heap := by
  obtain ⟨st, h1, h2⟩ := Option.map_eq_some_iff.mp (chk_A w os)
  obtain ⟨st2, g1, g2⟩ := Option.map_eq_some_iff.mp (chk_C w os)
  obtain ⟨st3, k1, k2⟩ := Option.map_eq_some_iff.mp (chk_D w os)
  rw [h1] at g1 k1
  (first | exact nosome g1 | exact nofalse g1 | cases g1)
  (first | exact nosome k1 | exact nofalse k1 | cases k1)
  obtain ⟨a1, a2⟩ := Prod.mk.inj h2
  obtain ⟨b1, b2⟩ := Prod.mk.inj g2
  obtain ⟨c1, c2⟩ := Prod.mk.inj k2
  exact ⟨st, h1, a1, a2, K0 st, fragT_in _ _ _ _, b1, b2, TabAt.of c1 c2⟩
theorem left0 : LeftO p0 q0 loose0 (fun _ => true) (fun s => GoodH s.heap) (fun _ => True) 11900 := by
  refine left_once op0 (by decide +kernel) fe0 fun w os => ?_
  obtain ⟨st, h1, h2, h3, h4⟩ := good0 w os
  exact ⟨st, h1, h2, h3, eq_true h4⟩
end Mine
open PySem PySem.W PyProof.Rows
set_option maxRecDepth 100000 in
set_option maxHeartbeats 8000000 in
theorem PySem.Challenge.cw_no0028_02_holds : PySem.Challenge.rw_no0028_02.Holds := by
  w_on
  refine holds_law Mine.said0 fun said => ?_
  refine holds_open (q := Mine.q0) (loose := Mine.loose0) (Xt := fun _ => true) (XP := fun _ _ => True) (Yf := fun s => Mine.GoodH s.heap) (Ya := fun _ => True) (YP := fun _ h => Mine.GoodH h) (d := Mine.dL) (kwd := []) (N := 11900) Mine.left0 (fun w s e => of_eq_true e) (fun w h h' x k => x.keeps k) (fun _ _ => trivial) (fun _ _ _ _ _ => trivial) Mine.def0 Mine.def1 Mine.def2 (fun s e => recFacts_nil rfl) (by kernel_rfl) said (by kernel_rfl) ⟨rfl, rfl, rfl, rfl, rfl, by kernel_rfl⟩ ?hw ?hc
  case hw => w_witness2
  intro w s₀ s₁ mg mb G Y fa o pm cd doc dV kV ho hd hcd hD hmg hg args vals as hpre hlay hrd hwl hlo
  refine Ground.open G ?_
  intro T B D TE TW
  clear hd hcd hD
  wrow_args hpre hlay hrd hwl hlo
  have hfa : fa = 944 := by
    have h1 := (Mine.mg_law Y T.g).symm.trans hmg
    (first | exact nosome h1 | exact nofalse h1 | cases h1)
    rfl
  subst hfa
  with_reducible rename ReadsAll _ _ (List.map _ _) _ => ra
  with_reducible rename Heap.IsList _ _ _ => hL
  refine enter_call (codeAny_mono (Mine.law_done Y T rfl (by decide +kernel) (by omega) hL ra) ?_)
  rintro r s' ⟨rfl, h1, h2, h3⟩
  refine GoodW.toG ⟨.inl ⟨.bool true, .bool true, [], rfl, ?_, ReadsW.bool _, ?_, ?_⟩, h1, h2, h3.trans hg⟩
  · intro cls; rfl
  · refine postW_of (X := true) (by show WShape.has _ (.bool true) .bool = true; simp [WShape.has, WShape.arms]) (by show WTm.value _ (.eq .res (.lit (.bool true))) _ = _; simp [WTm.value, PySem.W.same]) rfl
  · exact fun _ => ⟨List.nodup_nil, fun _ h => nomatch h⟩
