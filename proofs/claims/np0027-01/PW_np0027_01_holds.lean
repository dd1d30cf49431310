import PyProof.Rows.All
import Wide.All
import OpenK.AllK
import Wide.FinOn
import Lean
import PySem.Challenge.RW_np0027_01
set_option Elab.async false
set_option bootstrap.genMatcherCode false
set_option compiler.extract_closed false
section
namespace Mini
set_option tactic.hygienic false
theorem byF {p : Prop} (h : ¬p → False) : p := Classical.byContradiction h
theorem no_el {α : Type} {a : α} {P : Prop} (h : none = some a) : P := nomatch h
theorem ret_el {α β : Type} {a c : α} {b d : β} {Z : α → β → Prop} (h : some (a, b) = some (c, d)) (k : Z a b) : Z c d := by cases h; exact k
theorem pr_el {α β : Type} {a c : α} {b d : β} {P : Prop} (h : some (a, b) = some (c, d)) (k : a = c → b = d → P) : P := by cases h; exact k rfl rfl
theorem on_el {α : Type} {a b : α} {P : Prop} (h : some a = some b) (k : a = b → P) : P := by cases h; exact k rfl
@[elab_as_elim] theorem rwE {α : Sort _} {a b : α} {motive : α → Prop} (h : a = b) (k : motive b) : motive a := h ▸ k
inductive D where
  | none
  | bool (b : Bool)
  | int (i : Int)
  | list (l : List D)
  | tup (l : List D)
mutual
noncomputable def D.eqv : D → D → Bool
  | .none, d => (match d with | .none => true | _ => false)
  | .bool a, d => (match d with | .bool b => a == b | .int j => (if a then 1 else 0) == j | _ => false)
  | .int i, d => (match d with | .bool b => i == (if b then 1 else 0) | .int j => i == j | _ => false)
  | .list xs, d => (match d with | .list ys => D.eqvs xs ys | _ => false)
  | .tup xs, d => (match d with | .tup ys => D.eqvs xs ys | _ => false)
noncomputable def D.eqvs : List D → List D → Bool
  | [], ys => (match ys with | [] => true | _ => false)
  | x :: xs, ys => (match ys with | y :: ys' => D.eqv x y && D.eqvs xs ys' | [] => false)
end
theorem Deqvsq1 : D.eqvs [] [] = true := rfl
theorem Deqvsq3 (x_2 : D) (xs : List D) (y : D) (ys' : List D) : D.eqvs (x_2 :: xs) (y :: ys') = (x_2.eqv y && D.eqvs xs ys') := rfl
theorem Deqvsq4 (x_2 : D) (xs : List D) : D.eqvs (x_2 :: xs) [] = false := rfl
theorem Deqvsq5 (y : D) (ys : List D) : D.eqvs [] (y :: ys) = false := rfl
theorem Deqvq1 : D.none.eqv D.none = true := rfl
theorem Deqvq3 (a b : Bool) : (D.bool a).eqv (D.bool b) = (a == b) := rfl
theorem Deqvq4 (a : Bool) (j : Int) : (D.bool a).eqv (D.int j) = ((if a = true then 1 else 0) == j) := rfl
theorem Deqvq6 (i : Int) (b : Bool) : (D.int i).eqv (D.bool b) = (i == if b = true then 1 else 0) := rfl
theorem Deqvq7 (i j : Int) : (D.int i).eqv (D.int j) = (i == j) := rfl
theorem Deqvq9 (xs ys : List D) : (D.list xs).eqv (D.list ys) = D.eqvs xs ys := rfl
theorem Deqvq11 (xs ys : List D) : (D.tup xs).eqv (D.tup ys) = D.eqvs xs ys := rfl
theorem Deqvq20 (xs : List D) : D.eqv (.list xs) .none = false := rfl
theorem Deqvq21 (xs : List D) : D.eqv .none (.list xs) = false := rfl
theorem Deqvq22 (xs : List D) : D.eqv (.tup xs) .none = false := rfl
theorem Deqvq23 (xs : List D) : D.eqv .none (.tup xs) = false := rfl
theorem Deqvq24 (i : Int) : D.eqv (.int i) .none = false := rfl
theorem Deqvq25 (i : Int) : D.eqv .none (.int i) = false := rfl
noncomputable def lim : Nat := 1000000
inductive Slot where
  | unset
  | fro (d : D)
  | own (l : List D)
  | nest (done : List D) (last : List D)
  | dct (ks : List Int)
  | deck
structure St where
  v : List Slot
  dk : List Int
inductive Cp where | lt | le | gt | ge | eq | ne
  deriving DecidableEq
set_option genSizeOf false
set_option genInjectivity false
mutual
inductive Ex where
  | none
  | bool (b : Bool)
  | int (i : Int)
  | neg (a : Ex)
  | var (x : Nat)
  | add (a b : Ex)
  | sub (a b : Ex)
  | mul (a b : Ex)
  | mod (a b : Ex)
  | not (a : Ex)
  | and (a b : Ex)
  | or (a b : Ex)
  | cmp (op : Cp) (a b : Ex)
  | isNil (ng : Bool) (x : Nat)
  | isNone (ng : Bool) (a : Ex)
  | inn (ng : Bool) (a b : Ex)
  | chain (o1 o2 : Cp) (a b c : Ex)
  | ite (t a b : Ex)
  | len (a : Ex)
  | abs (a : Ex)
  | min (a b : Ex)
  | listRange (a : Ex)
  | call (f : Nat) (args : Exs)
  | sorted (f : Nat) (r rv : Ex)
  | idx (a i : Ex)
  | idxV (x : Nat) (i : Ex)
  | slice (a : Ex) (lo hi : Ox)
  | sliceV (x : Nat) (lo hi : Ox)
  | rev (a : Ex)
  | lst (es : Exs)
  | tup (es : Exs)
  | dict
  | comp (caps : List Nat) (k : Nat) (it : It) (ifs : Exs) (elt : Ex)
  | pop (x : Nat)
  | pop0 (x : Nat)
inductive Exs where
  | nil
  | cons (e : Ex) (es : Exs)
inductive Ox where
  | none
  | some (e : Ex)
inductive It where
  | val (e : Ex)
  | range (e : Ex)
  | enum (e : Ex)
  | zip (a b : Ex)
end
mutual
inductive Sm where
  | asg (x : Nat) (e : Ex)
  | asgC (x : Nat) (e : Ex)
  | asgT (xs : List Nat) (es : Exs)
  | unp (xs : List Nat) (e : Ex)
  | setIdx (x : Nat) (i e : Ex)
  | append (x : Nat) (e : Ex)
  | appendN (x : Nat) (e : Ex)
  | appendL (x y : Nat)
  | extend (x : Nat) (e : Ex)
  | remove (x : Nat) (e : Ex)
  | forS (xs : List Nat) (it : It) (body : Sms)
  | whileS (t : Ex) (body : Sms)
  | ifS (t : Ex) (a b : Sms)
  | ret (e : Ex)
  | brk
inductive Sms where
  | nil
  | cons (s : Sm) (r : Sms)
end
set_option genSizeOf true
set_option genInjectivity true
noncomputable def Slot.frz : Slot → Option D
  | .fro d => some d
  | .own l => some (.list l)
  | .nest done last => some (.list (done ++ [.list last]))
  | _ => none
noncomputable def Slot.read : Slot → Slot
  | .own l => .fro (.list l)
  | .nest done last => .fro (.list (done ++ [.list last]))
  | s => s
noncomputable def intsOf : List D → Option (List Int)
  | [] => some []
  | .int i :: r => (match intsOf r with | some l => some (i :: l) | none => none)
  | _ :: _ => none
theorem intsOfq1 : intsOf [] = some [] := rfl
theorem intsOfq2 (i : Int) (r : List D) :
  intsOf (D.int i :: r) =
    match intsOf r with
    | some l => some (i :: l)
    | none => none := rfl
noncomputable def ltI : List Int → List Int → Bool
  | [], b => (match b with | [] => false | _ :: _ => true)
  | x :: a, b => (match b with | [] => false | y :: b' => if x == y then ltI a b' else decide (x < y))
theorem ltIq1 : ltI [] [] = false := rfl
theorem ltIq2 (head : Int) (tail : List Int) : ltI [] (head :: tail) = true := rfl
theorem ltIq3 (x_2 : Int) (a : List Int) : ltI (x_2 :: a) [] = false := rfl
theorem ltIq4 (x_2 : Int) (a : List Int) (head : Int) (tail : List Int) : ltI (x_2 :: a) (head :: tail) = if (x_2 == head) = true then ltI a tail else decide (x_2 < head) := rfl
noncomputable def plt : D → D → Option Bool
  | .int a, .int b => some (decide (a < b))
  | .list a, .list b => (match intsOf a, intsOf b with | some x, some y => some (ltI x y) | _, _ => none)
  | _, _ => none
noncomputable def isInt : D → Bool
  | .int _ => true
  | _ => false
noncomputable def isInts : D → Bool
  | .list l => l.all isInt
  | _ => false
noncomputable def small : D → Bool
  | .none => true
  | .bool _ => true
  | .int _ => true
  | .list l => l.all isInt
  | .tup _ => false
noncomputable def cmpD : Cp → D → D → Option Bool
  | .eq, a, b => if small a || small b then some (D.eqv a b) else none
  | .ne, a, b => if small a || small b then some (!D.eqv a b) else none
  | .lt, a, b => plt a b
  | .gt, a, b => plt b a
  | .le, .int a, .int b => some (decide (a ≤ b))
  | .ge, .int a, .int b => some (decide (b ≤ a))
  | _, _, _ => none
noncomputable def place (n : Nat) (i : Int) : Option Nat :=
  if 0 ≤ i then (if i < n then some i.toNat else none) else (if 0 ≤ i + n then some (i + n).toNat else none)
noncomputable def clip (n : Nat) (i : Int) : Nat := (max 0 (min (if i < 0 then i + n else i) n)).toNat
noncomputable def cut (l : List D) (lo hi : Option Int) : List D :=
  (l.drop (lo.elim 0 (clip l.length))).take (hi.elim l.length (clip l.length) - lo.elim 0 (clip l.length))
noncomputable def ins {α : Type} (lt : α → α → Bool) (x : α) : List α → List α
  | [] => [x]
  | y :: r => if lt y x then y :: ins lt x r else x :: y :: r
theorem insq1 {α : Type} (lt : α → α → Bool) (x : α) : ins lt x [] = [x] := rfl
theorem insq2 {α : Type} (lt : α → α → Bool) (x y : α) (r : List α) : ins lt x (y :: r) = if lt y x = true then y :: ins lt x r else x :: y :: r := rfl
noncomputable def isort {α : Type} (lt : α → α → Bool) : List α → List α
  | [] => []
  | x :: r => ins lt x (isort lt r)
theorem isortq1 {α : Type} (lt : α → α → Bool) : isort lt [] = [] := rfl
theorem isortq2 {α : Type} (lt : α → α → Bool) (y : α) (r : List α) : isort lt (y :: r) = ins lt y (isort lt r) := rfl
noncomputable def keysOk (ks : List D) : Bool := ks.all isInt || ks.all isInts
noncomputable def pl (p q : D × D) : Bool := (plt p.1 q.1).getD false
noncomputable def sortK (ks l : List D) (rv : Bool) : Option (List D) :=
  if keysOk ks && decide (l.length ≤ 5) && decide (ks.length = l.length) then some ((if rv then (isort pl (ks.zip l).reverse).reverse else isort pl (ks.zip l)).map (·.2)) else none
noncomputable def Slot.peek : Slot → Option D
  | .fro d => some d
  | .own l => some (.list l)
  | _ => none
noncomputable def lenOf : Slot → Option Nat
  | .fro (.list l) => some l.length
  | .fro (.tup l) => some l.length
  | .own l => some l.length
  | .dct ks => some ks.length
  | _ => none
noncomputable def itemOf (d : D) (i : Int) : Option D :=
  match d with
  | .list l => (match place l.length i with | some k => l[k]? | none => none)
  | .tup l => (match place l.length i with | some k => l[k]? | none => none)
  | _ => none
noncomputable def nilOf : Slot → List Int → Option Bool
  | .fro (.list l), _ => some l.isEmpty
  | .own l, _ => some l.isEmpty
  | .deck, dk => some dk.isEmpty
  | _, _ => none
noncomputable def addD : D → D → Option Slot
  | .int a, .int b => some (.fro (.int (a + b)))
  | .list a, .list b => if a.length + b.length ≤ lim then some (.own (a ++ b)) else none
  | _, _ => none
noncomputable def subD : D → D → Option Slot
  | .int a, .int b => some (.fro (.int (a - b)))
  | _, _ => none
noncomputable def mulD : D → D → Option Slot
  | .int a, .int b => if a.natAbs < 2 ^ 60 ∧ b.natAbs < 2 ^ 60 then some (.fro (.int (a * b))) else none
  | _, _ => none
noncomputable def modD : D → D → Option Slot
  | .int a, .int b => if b = 0 then none else some (.fro (.int (a.fmod b)))
  | _, _ => none
noncomputable def negD : D → Option Slot
  | .int a => some (.fro (.int (-a)))
  | _ => none
noncomputable def absD : D → Option Slot
  | .int a => some (.fro (.int a.natAbs))
  | _ => none
noncomputable def minD : D → D → Option Slot
  | .int a, .int b => some (.fro (.int (if b < a then b else a)))
  | _, _ => none
noncomputable def rangeD : D → Option (List D)
  | .int n => if 0 ≤ n ∧ n ≤ lim then some ((List.range n.toNat).map fun i => .int (i : Nat)) else none
  | _ => none
noncomputable def enumD (l : List D) : List D := l.zipIdx.map fun p => .tup [.int (p.2 : Nat), p.1]
noncomputable def zipD (a b : List D) : List D := (a.zip b).map fun p => .tup [p.1, p.2]
noncomputable def itemsD : D → Option (List D)
  | .list l => some l
  | .tup l => some l
  | _ => none
noncomputable def seqD : D → Option (List D)
  | .list l => some l
  | _ => none
noncomputable def tupD : D → Option (List D)
  | .tup l => some l
  | _ => none
noncomputable def Slot.un : Slot → Bool
  | .unset => true
  | _ => false
noncomputable def setSlot (v : List Slot) (x : Nat) (s : Slot) : Option (List Slot) := if s.un then none else if x < v.length then some (v.set x s) else none
noncomputable def setAll : List Nat → List D → List Slot → Option (List Slot)
  | [], [], v => some v
  | x :: xs, d :: ds, v => (match setSlot v x (.fro d) with | some v' => setAll xs ds v' | none => none)
  | _, _, _ => none
theorem setAllq2 (v : List Slot) (x : Nat) (xs : List Nat) (d : D) (ds : List D) :
  setAll (x :: xs) (d :: ds) v = (match setSlot v x (Slot.fro d) with | some v2 => setAll xs ds v2 | none => none) := rfl
noncomputable def setSlots : List Nat → List Slot → List Slot → Option (List Slot)
  | [], [], v => some v
  | x :: xs, s :: ss, v => (match setSlots xs ss v with | some v' => setSlot v' x s | none => none)
  | _, _, _ => none
theorem setSlotsq2 (v : List Slot) (x : Nat) (xs : List Nat) (s : Slot) (ss : List Slot) :
  setSlots (x :: xs) (s :: ss) v = (match setSlots xs ss v with | some v2 => setSlot v2 x s | none => none) := rfl
noncomputable def bindT (xs : List Nat) (d : D) (v : List Slot) : Option (List Slot) :=
  match xs with
  | [x] => setSlot v x (.fro d)
  | xs => (match tupD d with | some ds => setAll xs ds v | none => none)
noncomputable def capV : List Nat → List Slot → List Slot
  | [], v => v
  | i :: r, v => capV r (match v[i]? with | some s => v.set i s.read | none => v)
theorem capVq1 (u : List Slot) : capV [] u = u := rfl
theorem capVq2 (u : List Slot) (i : Nat) (r : List Nat) :
  capV (i :: r) u = (
    capV r
      (match u[i]? with
      | some s => u.set i s.read
      | none => u)) := rfl
noncomputable def seenV (caps : List Nat) (v : List Slot) : List Slot := v.mapIdx fun i s => if caps.contains i then s else .unset
noncomputable def compL (one : D → St → Option (Option D × St)) : List D → St → Option (List D × St)
  | [], st => some ([], st)
  | d :: ds, st => do
    let (o, st1) ← one d st
    let (r, st2) ← compL one ds st1
    some (match o with | some y => y :: r | none => r, st2)
theorem compLq1 (one : D → St → Option (Option D × St)) (u : St) : compL one [] u = some ([], u) := rfl
theorem compLq2 (one : D → St → Option (Option D × St)) (u : St) (d : D) (ds : List D) :
  compL one (d :: ds) u = (do
    let __x ← one d u
    match __x with
      | (o, st1) => do
        let __x ← compL one ds st1
        match __x with
          | (r, st2) =>
            some
              (match o with
                | some y => y :: r
                | none => r,
                st2)) := rfl
noncomputable abbrev CF := Nat → List Slot → List Int → Option (D × List Int)
noncomputable def putKey (ks : List Int) (k : Int) : List Int := if ks.contains k then ks else ks ++ [k]
noncomputable def eraseD (l : List D) (d : D) : Option (List D) :=
  match l with
  | [] => none
  | x :: r => if D.eqv x d then some r else (match eraseD r d with | some r' => some (x :: r') | none => none)
theorem eraseDq1 (d : D) : eraseD [] d = none := rfl
theorem eraseDq2 (d x : D) (r : List D) :
  eraseD (x :: r) d = (
    if x.eqv d = true then some r
    else
      match eraseD r d with
      | some r' => some (x :: r')
      | none => none) := rfl
structure R where
  val : St → Option (Slot × St)
  tst : St → Option (Bool × St)
  bor : St → Option (Slot × St)
noncomputable def frzR (r : Option (Slot × St)) : Option (D × St) := do
  let (s, st1) ← r
  let d ← s.frz
  some (d, st1)
noncomputable def R.F (r : R) (st : St) : Option (D × St) := frzR (r.val st)
noncomputable def tstOf (f : St → Option (Slot × St)) (st : St) : Option (Bool × St) := do
  let (d, st1) ← frzR (f st)
  match d with | .bool b => some (b, st1) | _ => none
noncomputable def borOf (f : St → Option (Slot × St)) (st : St) : Option (Slot × St) := do
  let (d, st1) ← frzR (f st)
  some (.fro d, st1)
noncomputable def R.of (f : St → Option (Slot × St)) : R := ⟨f, tstOf f, borOf f⟩
noncomputable def pureR (s : Slot) : R := R.of fun st => some (s, st)
noncomputable def un (a : R) (op : D → Option Slot) : R := R.of fun st => do
  let (d, st1) ← a.F st
  let s ← op d
  some (s, st1)
noncomputable def bin (a b : R) (op : D → D → Option Slot) : R := R.of fun st => do
  let (d, st1) ← a.F st
  let (e, st2) ← b.F st1
  let s ← op d e
  some (s, st2)
noncomputable def notD : D → Option Slot
  | .bool b => some (.fro (.bool (!b)))
  | _ => none
noncomputable def cmpS (op : Cp) (d e : D) : Option Slot := do
  let r ← cmpD op d e
  some (.fro (.bool r))
noncomputable def noneS (ng : Bool) (d : D) : Option Slot := some (.fro (.bool (if ng then !D.eqv d .none else D.eqv d .none)))
noncomputable def isSet (st : St) (x : Nat) : Bool :=
  match st.v[x]? with
  | some .unset => false
  | some _ => true
  | none => false
noncomputable def isCap (st : St) (x : Nat) : Bool :=
  match st.v[x]? with
  | some .unset => false
  | some (.dct _) => false
  | some _ => true
  | none => false
noncomputable def isOwn (st : St) (x : Nat) : Bool :=
  match st.v[x]? with
  | some (.own _) => true
  | some (.nest _ _) => true
  | _ => false
noncomputable def varR (x : Nat) : R where
  val st := (match st.v[x]? with
    | some .unset => none
    | some (.dct _) => none
    | some s => some (s.read, { st with v := st.v.set x s.read })
    | none => none)
  tst := tstOf fun st => (match st.v[x]? with
    | some .unset => none
    | some (.dct _) => none
    | some s => some (s.read, { st with v := st.v.set x s.read })
    | none => none)
  bor st := if isSet st x then do let s ← st.v[x]?; some (s, st) else none
noncomputable def notR (a : R) : R where
  val := (un a notD).val
  tst st := do let (b, st1) ← a.tst st; some (!b, st1)
  bor := (un a notD).bor
noncomputable def andV (a b : R) (st : St) : Option (Slot × St) := do
  let (d, st1) ← a.F st
  match d with
  | .bool true => b.val st1
  | .bool false => some (.fro (.bool false), st1)
  | _ => none
noncomputable def orV (a b : R) (st : St) : Option (Slot × St) := do
  let (d, st1) ← a.F st
  match d with
  | .bool true => some (.fro (.bool true), st1)
  | .bool false => b.val st1
  | _ => none
noncomputable def andR (a b : R) : R where
  val := andV a b
  tst st := do
    let (c, st1) ← a.tst st
    if c then b.tst st1 else some (false, st1)
  bor := borOf (andV a b)
noncomputable def orR (a b : R) : R where
  val := orV a b
  tst st := do
    let (c, st1) ← a.tst st
    if c then some (true, st1) else b.tst st1
  bor := borOf (orV a b)
noncomputable def iteR (t a b : R) : R where
  val st := do
    let (c, st1) ← t.tst st
    if c then a.val st1 else b.val st1
  tst st := do
    let (c, st1) ← t.tst st
    if c then a.tst st1 else b.tst st1
  bor st := do
    let (c, st1) ← t.tst st
    if c then a.bor st1 else b.bor st1
noncomputable def isNilR (ng : Bool) (x : Nat) : R := R.of fun st => do
  let s ← st.v[x]?
  let r ← nilOf s st.dk
  some (.fro (.bool (if ng then !r else r)), st)
noncomputable def innS (ng : Bool) (d : D) : Slot → Option Slot
  | .dct ks => (match d with | .int k => some (.fro (.bool (if ng then !ks.contains k else ks.contains k))) | _ => none)
  | s => if small d then do
    let e ← s.peek
    let l ← seqD e
    some (.fro (.bool (if ng then !(l.any fun y => D.eqv y d) else l.any fun y => D.eqv y d)))
    else none
noncomputable def innR (ng : Bool) (a b : R) : R := R.of fun st => do
  let (d, st1) ← a.F st
  let (s, st2) ← b.bor st1
  let o ← innS ng d s
  some (o, st2)
noncomputable def chainR (o1 o2 : Cp) (a b c : R) : R := R.of fun st => do
  let (d, st1) ← a.F st
  let (e, st2) ← b.F st1
  let r ← cmpD o1 d e
  if r then do
    let (g, st3) ← c.F st2
    let q ← cmpD o2 e g
    some (.fro (.bool q), st3)
  else some (.fro (.bool false), st2)
noncomputable def lenR (a : R) : R := R.of fun st => do
  let (s, st1) ← a.bor st
  let n ← lenOf s
  some (.fro (.int (n : Nat)), st1)
noncomputable def listRangeD (d : D) : Option Slot := do let l ← rangeD d; some (.own l)
noncomputable def idxS (d e : D) : Option Slot :=
  match e with
  | .int k => do let o ← itemOf d k; some (.fro o)
  | _ => none
noncomputable def idxVarR (x : Nat) (i : R) : R := R.of fun st => if isSet st x then do
  let (e, st1) ← i.F st
  let s ← st1.v[x]?
  let d ← s.peek
  let o ← idxS d e
  some (o, st1)
  else none
noncomputable def intO : D → Option Int
  | .int i => some i
  | _ => none
noncomputable def noneO (st : St) : Option (Option Int × St) := some (none, st)
noncomputable def someO (r : R) (st : St) : Option (Option Int × St) := do
  let (d, st1) ← r.F st
  let i ← intO d
  some (some i, st1)
noncomputable abbrev OR := St → Option (Option Int × St)
noncomputable def sliceVarR (x : Nat) (lo hi : OR) : R := R.of fun st => if isSet st x then do
  let (l, st1) ← lo st
  let (h, st2) ← hi st1
  let s ← st2.v[x]?
  let d ← s.peek
  let xs ← seqD d
  some (.own (cut xs l h), st2)
  else none
noncomputable def sliceR (a : R) (lo hi : OR) : R := R.of fun st => do
  let (d, st1) ← a.F st
  let (l, st2) ← lo st1
  let (h, st3) ← hi st2
  let xs ← seqD d
  some (.own (cut xs l h), st3)
noncomputable def revD (d : D) : Option Slot := do let xs ← seqD d; some (.own xs.reverse)
noncomputable abbrev LR := St → Option (List D × St)
noncomputable def lstR (l : LR) : R := R.of fun st => do
  let (ds, st1) ← l st
  if ds.length ≤ lim then some (.own ds, st1) else none
noncomputable def tupR (l : LR) : R := R.of fun st => do
  let (ds, st1) ← l st
  if ds.length ≤ lim then some (.fro (.tup ds), st1) else none
noncomputable def popR (x : Nat) : R := R.of fun st => (match st.v[x]? with
  | some (.own l) => (match l.getLast? with
    | some d => some (.fro d, { st with v := st.v.set x (.own l.dropLast) })
    | none => none)
  | _ => none)
noncomputable def pop0R (x : Nat) : R := R.of fun st => (match st.v[x]? with
  | some .deck => (match st.dk with
    | i :: r => some (.fro (.int i), { st with dk := r })
    | [] => none)
  | _ => none)
noncomputable def compOne (n k : Nat) (ifs : St → Option (Bool × St)) (elt : R) (d : D) (s : St) : Option (Option D × St) := do
  let v ← bindT (List.range' n k) d s.v
  let (ok, s1) ← ifs { s with v := v }
  if ok then do
    let (y, s2) ← elt.F s1
    some (some y, s2)
  else some (none, s1)
noncomputable def compR (caps : List Nat) (k : Nat) (it : LR) (ifs : St → Option (Bool × St)) (elt : R) : R := R.of fun st => do
  let (items, st1) ← it st
  if caps.all (isCap st1) then do
  let (out, st2) ← compL (compOne st1.v.length k ifs elt) items { v := seenV caps (capV caps st1.v) ++ List.replicate k .unset, dk := st1.dk }
  some (.own out, { v := capV caps st1.v, dk := st2.dk })
  else none
noncomputable abbrev AR := St → Option (List Slot × St)
noncomputable def callR (cf : CF) (f : Nat) (args : AR) : R := R.of fun st => do
  let (ss, st1) ← args st
  let (d, dk) ← cf f ss st1.dk
  some (.fro d, { st1 with dk := dk })
noncomputable def keysBy (cf : CF) (f : Nat) : List D → List Int → Option (List D)
  | [], _ => some []
  | r :: rs, dk => do
    let (k, dk') ← cf f [.fro r] dk
    if dk' = dk then do
      let ks ← keysBy cf f rs dk
      some (k :: ks)
    else none
theorem keysByq1 (cf : CF) (f : Nat) (u : List Int) : keysBy cf f [] u = some [] := rfl
theorem keysByq2 (cf : CF) (f : Nat) (u : List Int) (r : D) (rs : List D) :
  keysBy cf f (r :: rs) u = (do
    let __x ← cf f [Slot.fro r] u
    match __x with
      | (k, dk') =>
        if dk' = u then do
          let ks ← keysBy cf f rs u
          some (k :: ks)
        else none) := rfl
noncomputable def sortedR (cf : CF) (f : Nat) (a b : R) : R := R.of fun st => do
  let (d, st1) ← a.F st
  let (e, st2) ← b.F st1
  let l ← seqD d
  match e with
  | .bool rv => do
    let ks ← keysBy cf f l st2.dk
    let o ← sortK ks l rv
    some (.own o, st2)
  | _ => none
noncomputable def argS : Slot → Option Slot
  | .deck => some .deck
  | s => (match s.frz with | some d => some (.fro d) | none => none)
mutual
noncomputable def ev (cf : CF) : Ex → R
  | .none => pureR (.fro .none)
  | .bool b => pureR (.fro (.bool b))
  | .int i => pureR (.fro (.int i))
  | .neg a => un (ev cf a) negD
  | .var x => varR x
  | .add a b => bin (ev cf a) (ev cf b) addD
  | .sub a b => bin (ev cf a) (ev cf b) subD
  | .mul a b => bin (ev cf a) (ev cf b) mulD
  | .mod a b => bin (ev cf a) (ev cf b) modD
  | .not a => notR (ev cf a)
  | .and a b => andR (ev cf a) (ev cf b)
  | .or a b => orR (ev cf a) (ev cf b)
  | .cmp op a b => bin (ev cf a) (ev cf b) (cmpS op)
  | .isNil ng x => isNilR ng x
  | .isNone ng a => un (ev cf a) (noneS ng)
  | .inn ng a b => innR ng (ev cf a) (ev cf b)
  | .chain o1 o2 a b c => chainR o1 o2 (ev cf a) (ev cf b) (ev cf c)
  | .ite t a b => iteR (ev cf t) (ev cf a) (ev cf b)
  | .len a => lenR (ev cf a)
  | .abs a => un (ev cf a) absD
  | .min a b => bin (ev cf a) (ev cf b) minD
  | .listRange a => un (ev cf a) listRangeD
  | .call f args => callR cf f (evA cf args)
  | .sorted f r rv => sortedR cf f (ev cf r) (ev cf rv)
  | .idx a i => bin (ev cf a) (ev cf i) idxS
  | .idxV x i => idxVarR x (ev cf i)
  | .slice a lo hi => sliceR (ev cf a) (evO cf lo) (evO cf hi)
  | .sliceV x lo hi => sliceVarR x (evO cf lo) (evO cf hi)
  | .rev a => un (ev cf a) revD
  | .lst es => lstR (evL cf es)
  | .tup es => tupR (evL cf es)
  | .dict => pureR (.dct [])
  | .comp caps k it ifs elt => compR caps k (evI cf it) (evC cf ifs) (ev cf elt)
  | .pop x => popR x
  | .pop0 x => pop0R x
noncomputable def evC (cf : CF) : Exs → St → Option (Bool × St)
  | .nil, st => some (true, st)
  | .cons e es, st => do
    let (b, st1) ← (ev cf e).tst st
    if b then evC cf es st1 else some (false, st1)
noncomputable def evL (cf : CF) : Exs → St → Option (List D × St)
  | .nil, st => some ([], st)
  | .cons e es, st => do
    let (d, st1) ← (ev cf e).F st
    let (ds, st2) ← evL cf es st1
    some (d :: ds, st2)
noncomputable def evA (cf : CF) : Exs → St → Option (List Slot × St)
  | .nil, st => some ([], st)
  | .cons e es, st => do
    let (s, st1) ← (ev cf e).val st
    let s' ← argS s
    let (ss, st2) ← evA cf es st1
    some (s' :: ss, st2)
noncomputable def evO (cf : CF) : Ox → St → Option (Option Int × St)
  | .none, st => noneO st
  | .some e, st => someO (ev cf e) st
noncomputable def evI (cf : CF) : It → St → Option (List D × St)
  | .val e, st => do let (d, st1) ← (ev cf e).F st; let l ← seqD d; some (l, st1)
  | .range e, st => do let (d, st1) ← (ev cf e).F st; let l ← rangeD d; some (l, st1)
  | .enum e, st => do let (d, st1) ← (ev cf e).F st; let l ← seqD d; some (enumD l, st1)
  | .zip a b, st => do
    let (d, st1) ← (ev cf a).F st
    let (e, st2) ← (ev cf b).F st1
    let l ← seqD d
    let m ← seqD e
    some (zipD l m, st2)
end
inductive Ctl where
  | next
  | brk
  | ret (s : Slot)
noncomputable def forL (xs : List Nat) (body : St → Option (Ctl × St)) : List D → St → Option (Ctl × St)
  | [], st => some (.next, st)
  | d :: ds, st => do
    let v ← bindT xs d st.v
    let (c, st1) ← body { st with v := v }
    match c with
    | .next => forL xs body ds st1
    | .brk => some (.next, st1)
    | .ret s => some (.ret s, st1)
theorem forLq1 (xs : List Nat) (body : St → Option (Ctl × St)) (u : St) : forL xs body [] u = some (Ctl.next, u) := rfl
theorem forLq2 (xs : List Nat) (body : St → Option (Ctl × St)) (u : St) (d : D) (ds : List D) :
  forL xs body (d :: ds) u = (do
    let v ← bindT xs d u.v
    let __x ← body { v := v, dk := u.dk }
    match __x with
      | (c, st1) =>
        match c with
        | Ctl.next => forL xs body ds st1
        | Ctl.brk => some (Ctl.next, st1)
        | Ctl.ret s => some (Ctl.ret s, st1)) := rfl
noncomputable def whileL (t : St → Option (Bool × St)) (body : St → Option (Ctl × St)) : Nat → St → Option (Ctl × St)
  | 0, _ => none
  | n + 1, st => do
    let (b, st1) ← t st
    if b then do
      let (c, st2) ← body st1
      match c with
      | .next => whileL t body n st2
      | .brk => some (.next, st2)
      | .ret s => some (.ret s, st2)
    else some (.next, st1)
theorem whileLq1 (t : St → Option (Bool × St)) (body : St → Option (Ctl × St)) (u : St) : whileL t body 0 u = none := rfl
theorem whileLq2 (t : St → Option (Bool × St)) (body : St → Option (Ctl × St)) (u : St) (n : Nat) :
  whileL t body (n + 1) u = (do
    let __x ← t u
    match __x with
      | (b, st1) =>
        if b = true then do
          let __x ← body st1
          match __x with
            | (c, st2) =>
              match c with
              | Ctl.next => whileL t body n st2
              | Ctl.brk => some (Ctl.next, st2)
              | Ctl.ret s => some (Ctl.ret s, st2)
        else some (Ctl.next, st1)) := rfl
noncomputable def withV (st : St) (o : Option (List Slot)) : Option (Ctl × St) :=
  match o with
  | some v => some (.next, { st with v := v })
  | none => none
noncomputable def evS (cf : CF) : Exs → St → Option (List Slot × St)
  | .nil, st => some ([], st)
  | .cons e es, st => do
    let (s, st1) ← (ev cf e).val st
    let (ss, st2) ← evS cf es st1
    some (s :: ss, st2)
noncomputable def asgS (x : Nat) (e : R) (st : St) : Option (Ctl × St) := do
  let (s, st1) ← e.val st
  withV st1 (setSlot st1.v x s)
noncomputable def asgCS (x : Nat) (e : R) (st : St) : Option (Ctl × St) := do
  let (d, st1) ← e.F st
  if isSet st1 x then none else withV st1 (setSlot st1.v x (.fro d))
noncomputable def asgTS (xs : List Nat) (es : AR) (st : St) : Option (Ctl × St) := do
  let (ss, st1) ← es st
  withV st1 (setSlots xs ss st1.v)
noncomputable def unpS (xs : List Nat) (e : R) (st : St) : Option (Ctl × St) := do
  let (d, st1) ← e.F st
  let ds ← tupD d
  withV st1 (setAll xs ds st1.v)
noncomputable def putS (s : Slot) (i d : D) : Option Slot :=
  match s, i with
  | .own l, .int k => if 0 ≤ k ∧ k < l.length then some (.own (l.set k.toNat d)) else none
  | .dct ks, .int k => if ks.length < lim then (match d with | .bool true => some (.dct (putKey ks k)) | _ => none) else none
  | _, _ => none
noncomputable def setIdxS (x : Nat) (i e : R) (st : St) : Option (Ctl × St) := do
  let (d, st1) ← e.F st
  if isSet st1 x then do
    let (k, st2) ← i.F st1
    let s ← st2.v[x]?
    let s' ← putS s k d
    some (.next, { st2 with v := st2.v.set x s' })
  else none
noncomputable def appS (s : Slot) (d : D) : Option Slot :=
  match s with
  | .own l => if l.length < lim then some (.own (l ++ [d])) else none
  | _ => none
noncomputable def appendS (x : Nat) (e : R) (st : St) : Option (Ctl × St) := if isOwn st x then do
  let (d, st1) ← e.F st
  let s ← st1.v[x]?
  let s' ← appS s d
  some (.next, { st1 with v := st1.v.set x s' })
  else none
noncomputable def appNS (s : Slot) (m : Slot) : Option Slot :=
  match s, m with
  | .own l, .own m => if l.length < lim then some (.nest l m) else none
  | .nest done last, .own m => if done.length + 1 < lim then some (.nest (done ++ [.list last]) m) else none
  | _, _ => none
noncomputable def appendNS (x : Nat) (e : R) (st : St) : Option (Ctl × St) := if isOwn st x then do
  let (m, st1) ← e.val st
  let s ← st1.v[x]?
  let s' ← appNS s m
  some (.next, { st1 with v := st1.v.set x s' })
  else none
noncomputable def appLS (s t : Slot) : Option Slot :=
  match s, t with
  | .nest done last, .fro d => if last.length < lim then some (.nest done (last ++ [d])) else none
  | _, _ => none
noncomputable def appendLS (x y : Nat) (st : St) : Option (Ctl × St) := do
  let s ← st.v[x]?
  let t ← st.v[y]?
  let s' ← appLS s t
  some (.next, { st with v := st.v.set x s' })
noncomputable def extS (s : Slot) (d : D) : Option Slot :=
  match s, d with
  | .own l, .list m => if l.length + m.length ≤ lim then some (.own (l ++ m)) else none
  | _, _ => none
noncomputable def extendS (x : Nat) (e : R) (st : St) : Option (Ctl × St) := if isOwn st x then do
  let (d, st1) ← e.F st
  let s ← st1.v[x]?
  let s' ← extS s d
  some (.next, { st1 with v := st1.v.set x s' })
  else none
noncomputable def remS (s : Slot) (d : D) : Option Slot :=
  match s with
  | .own l => if isInt d && l.all isInt then (match eraseD l d with | some r => some (.own r) | none => none) else none
  | _ => none
noncomputable def removeS (x : Nat) (e : R) (st : St) : Option (Ctl × St) := if isOwn st x then do
  let (d, st1) ← e.F st
  let s ← st1.v[x]?
  let s' ← remS s d
  some (.next, { st1 with v := st1.v.set x s' })
  else none
noncomputable def forS (xs : List Nat) (it : LR) (body : St → Option (Ctl × St)) (st : St) : Option (Ctl × St) := do
  let (l, st1) ← it st
  forL xs body l st1
noncomputable def ifS (t : R) (a b : St → Option (Ctl × St)) (st : St) : Option (Ctl × St) := do
  let (c, st1) ← t.tst st
  if c then a st1 else b st1
noncomputable def retS (e : R) (st : St) : Option (Ctl × St) := do
  let (s, st1) ← e.val st
  some (.ret s, st1)
noncomputable def seqS (a b : St → Option (Ctl × St)) (st : St) : Option (Ctl × St) := do
  let (c, st1) ← a st
  match c with
  | .next => b st1
  | c => some (c, st1)
mutual
noncomputable def ex (cf : CF) : Sm → St → Option (Ctl × St)
  | .asg x e => asgS x (ev cf e)
  | .asgC x e => asgCS x (ev cf e)
  | .asgT xs es => asgTS xs (evS cf es)
  | .unp xs e => unpS xs (ev cf e)
  | .setIdx x i e => setIdxS x (ev cf i) (ev cf e)
  | .append x e => appendS x (ev cf e)
  | .appendN x e => appendNS x (ev cf e)
  | .appendL x y => appendLS x y
  | .extend x e => extendS x (ev cf e)
  | .remove x e => removeS x (ev cf e)
  | .forS xs it body => forS xs (evI cf it) (exs cf body)
  | .whileS t body => whileL (ev cf t).tst (exs cf body) lim
  | .ifS t a b => ifS (ev cf t) (exs cf a) (exs cf b)
  | .ret e => retS (ev cf e)
  | .brk => fun st => some (.brk, st)
noncomputable def exs (cf : CF) : Sms → St → Option (Ctl × St)
  | .nil => fun st => some (.next, st)
  | .cons s r => seqS (ex cf s) (exs cf r)
end
structure Fn where
  np : Nat
  nv : Nat
  body : Sms
noncomputable def endR (r : Option (Ctl × St)) : Option (D × List Int) := do
  let (c, st) ← r
  match c with
  | .ret s => (match s.frz with | some d => some (d, st.dk) | none => none)
  | .next => some (.none, st.dk)
  | .brk => none
noncomputable def callF (tbl : Nat → Option Fn) : Nat → CF
  | 0 => fun _ _ _ => none
  | n + 1 => fun f args dk =>
    match tbl f with
    | none => none
    | some fn => if args.length = fn.np then
        endR (exs (callF tbl n) fn.body { v := args ++ List.replicate (fn.nv - fn.np) .unset, dk := dk })
      else none
theorem callFq1 (tbl : Nat → Option Fn) : callF tbl 0 = (fun x x_1 x_2 => none) := rfl
theorem callFq2 (tbl : Nat → Option Fn) (n : Nat) :
  callF tbl (n + 1) = (fun f args dk =>
    match tbl f with
    | none => none
    | some fn => if args.length = fn.np then endR (exs (callF tbl n) fn.body { v := args ++ List.replicate (fn.nv - fn.np) Slot.unset, dk := dk }) else none) := rfl
end Mini
end
section
namespace Mini
set_option tactic.hygienic false
open PySem (Str Expr Stmt NameKind Scope Comprehension Keyword)
structure Glb where
  consts : List (Str × Int)
  fns : List Str
structure Cx where
  names : List (Str × NameKind)
  outer : List Str
  inner : List Str
noncomputable def Cx.isG (c : Cx) (x : Str) : Bool := c.names.lookup x == some .globalImplicit
noncomputable def Cx.res (c : Cx) (x : Str) : Option Nat :=
  match c.names.lookup x with
  | some .local => if c.inner.isEmpty then (if c.outer.contains x then some (c.outer.idxOf x) else none)
      else (if c.inner.contains x then some (c.outer.length + c.inner.idxOf x) else none)
  | some .cell => if c.inner.isEmpty && c.outer.contains x then some (c.outer.idxOf x) else none
  | some .free => if !c.inner.isEmpty && c.outer.contains x then some (c.outer.idxOf x) else none
  | _ => none
noncomputable def varsOf (s : Scope) : List Str := (s.names.filter fun p => p.2 == .local || p.2 == .cell).map (·.1)
structure Fm where
  T : Type
  to : T → Expr
noncomputable def fms : List Fm := [⟨Str × PySem.Pos, fun p => .Name p.1 p.2⟩, ⟨List Expr × PySem.Pos, fun p => .List p.1 p.2⟩, ⟨List Expr × Nat × PySem.Pos, fun p => .Tuple p.1 p.2.1 p.2.2⟩,
  ⟨PySem.Const × Nat × PySem.Pos, fun p => .Constant p.1 p.2.1 p.2.2⟩, ⟨PySem.UnaryOp × Expr × PySem.Pos, fun p => .UnaryOp p.1 p.2.1 p.2.2⟩,
  ⟨Option Expr × Option Expr × Option Expr × PySem.Pos, fun p => .Slice p.1 p.2.1 p.2.2.1 p.2.2.2⟩, ⟨Expr × Str × PySem.Pos, fun p => .Attribute p.1 p.2.1 p.2.2⟩, ⟨Expr × Expr × PySem.Pos, fun p => .Subscript p.1 p.2.1 p.2.2⟩,
  ⟨Expr × List Expr × List Keyword × PySem.Pos, fun p => .Call p.1 p.2.1 p.2.2.1 p.2.2.2⟩, ⟨Expr × PySem.Pos, fun p => .Starred p.1 p.2⟩, ⟨List Expr × Nat × PySem.Pos, fun p => .Set p.1 p.2.1 p.2.2⟩,
  ⟨Expr × List PySem.CmpOp × List Expr × PySem.Pos, fun p => .Compare p.1 p.2.1 p.2.2.1 p.2.2.2⟩, ⟨Expr × Expr × Expr × PySem.Pos, fun p => .IfExp p.1 p.2.1 p.2.2.1 p.2.2.2⟩,
  ⟨Expr × List Comprehension × Scope × PySem.Pos, fun p => .ListComp p.1 p.2.1 p.2.2.1 p.2.2.2⟩, ⟨Expr × List Comprehension × Scope × PySem.Pos, fun p => .SetComp p.1 p.2.1 p.2.2.1 p.2.2.2⟩, ⟨Expr × Expr × List Comprehension × Scope × PySem.Pos, fun p => .DictComp p.1 p.2.1 p.2.2.1 p.2.2.2.1 p.2.2.2.2⟩]
noncomputable def fm (k : Nat) : Fm := fms.getD k ⟨Str × PySem.Pos, fun p => .Name p.1 p.2⟩
noncomputable def at' (j : Nat) (x : (fm j).T) (k : Nat) : Option (fm k).T := if h : j = k then some (h ▸ x) else none
theorem at_mk {j : Nat} {x : (fm j).T} {k : Nat} {y : (fm k).T} (h : at' j x k = some y) : (fm j).to x = (fm k).to y := by
  by_cases e : j = k
  · subst e
    exact congrArg _ (Option.some.inj ((dif_pos rfl).symm.trans h))
  · exact nomatch (dif_neg e).symm.trans h
noncomputable def get (e : Expr) (k : Nat) : Option (fm k).T :=
  e.casesOn (fun _ _ _ => none) (fun _ _ _ => none) (fun _ _ _ _ => none) (fun a b c => at' 4 (a, b, c) k) (fun _ _ _ _ => none) (fun a b c d => at' 12 (a, b, c, d) k) (fun _ _ _ => none) (fun a b c => at' 10 (a, b, c) k)
    (fun a b c d => at' 13 (a, b, c, d) k) (fun a b c d => at' 14 (a, b, c, d) k) (fun a b c d e => at' 15 (a, b, c, d, e) k) (fun _ _ _ _ => none) (fun _ _ => none) (fun _ _ => none) (fun _ _ => none) (fun a b c d => at' 11 (a, b, c, d) k) (fun a b c d => at' 8 (a, b, c, d) k)
    (fun _ _ _ _ => none) (fun _ _ => none) (fun a b c => at' 3 (a, b, c) k) (fun a b c => at' 6 (a, b, c) k) (fun a b c => at' 7 (a, b, c) k) (fun a b => at' 9 (a, b) k) (fun a b => at' 0 (a, b) k) (fun a b => at' 1 (a, b) k)
    (fun a b c => at' 2 (a, b, c) k) (fun a b c d => at' 5 (a, b, c, d) k)
theorem get_some {e : Expr} {k : Nat} {y : (fm k).T} : get e k = some y → e = (fm k).to y := by
  cases e <;> first | exact at_mk | exact fun h => nomatch h
theorem get_map {e : Expr} {k : Nat} {α : Type} {f : (fm k).T → α} {y : α} (h : (get e k).map f = some y) : ∃ x, e = (fm k).to x ∧ f x = y := by
  obtain ⟨x, h1, h2⟩ := Option.map_eq_some_iff.mp h
  exact ⟨x, get_some h1, h2⟩
noncomputable def nameP (e : Expr) : Option (Str × PySem.Pos) := get e 0
noncomputable def nameOf (e : Expr) : Option Str := (nameP e).map (·.1)
noncomputable def listOf (e : Expr) : Option (List Expr) := (show Option (List Expr × PySem.Pos) from get e 1).map (·.1)
noncomputable def tupOf (e : Expr) : Option (List Expr) := (show Option (List Expr × Nat × PySem.Pos) from get e 2).map (·.1)
noncomputable def constOf (e : Expr) : Option PySem.Const := (show Option (PySem.Const × Nat × PySem.Pos) from get e 3).map (·.1)
noncomputable def unOf (e : Expr) : Option (PySem.UnaryOp × Expr) := (show Option (PySem.UnaryOp × Expr × PySem.Pos) from get e 4).map fun p => (p.1, p.2.1)
noncomputable def one {α : Type} : List α → Option α
  | [x] => some x
  | _ => none
noncomputable def two {α : Type} : List α → Option (α × α)
  | [x, y] => some (x, y)
  | _ => none
noncomputable def namesOf : List Expr → Option (List Str)
  | [] => some []
  | e :: r => (match nameOf e with
    | some x => (match namesOf r with | some l => some (x :: l) | none => none)
    | none => none)
noncomputable def tgtsOf (e : Expr) : Option (List Str) :=
  match nameOf e with
  | some x => some [x]
  | none => (tupOf e).bind namesOf
noncomputable def allSome {α : Type} : List (Option α) → Option (List α)
  | [] => some []
  | some a :: r => (match allSome r with | some l => some (a :: l) | none => none)
  | none :: _ => none
theorem allSomeq1 {α : Type} : allSome ([] : List (Option α)) = some [] := rfl
theorem allSomeq2 {α : Type} (a : α) (r : List (Option α)) :
  allSome (some a :: r) = (
    match allSome r with
    | some l => some (a :: l)
    | none => none) := rfl
theorem allSomeq3 {α : Type} (tail : List (Option α)) : allSome (none :: tail) = none := rfl
noncomputable def opOf : PySem.CmpOp → Option Cp
  | .Eq => some .eq
  | .NotEq => some .ne
  | .Lt => some .lt
  | .LtE => some .le
  | .Gt => some .gt
  | .GtE => some .ge
  | _ => none
noncomputable def isUSub : PySem.UnaryOp → Bool
  | .USub => true
  | _ => false
noncomputable def isIntC (i : Int) : PySem.Const → Bool
  | .int j => decide (j = i)
  | _ => false
noncomputable def isNoneC : PySem.Const → Bool
  | .none => true
  | _ => false
noncomputable def isMinus1 (e : Expr) : Bool := (unOf e).any fun p => isUSub p.1 && (constOf p.2).any (isIntC 1)
noncomputable def isZero (l : List Expr) : Bool := (one l).any fun e => (constOf e).any (isIntC 0)
noncomputable def isNone' (e : Expr) : Bool := (constOf e).any isNoneC
noncomputable def isEmptyList (e : Expr) : Bool := (listOf e).any List.isEmpty
noncomputable def capsOf (outer : List Str) (s : Scope) : List Nat :=
  (s.names.filter fun p => p.2 == .free).map fun p => outer.idxOf p.1
noncomputable def capsIn (c : Cx) (s : Scope) : Bool :=
  (s.names.filter fun p => p.2 == .free).all fun p => c.outer.contains p.1 && c.names.lookup p.1 == some .cell
noncomputable def locsOf (s : Scope) : List Str := (s.names.filter fun p => p.2 == .local && p.1 != (".0" : Str)).map (·.1)
noncomputable def notComp (e : Expr) : Bool := ((get e 13).isNone && (get e 14).isNone) && (get e 15).isNone
noncomputable def lineOf (e : Expr) : Option Nat := (nameP e).map fun q => q.2.line
noncomputable def unfolded (e : Expr) : Bool := ((get e 8).isSome || (get e 1).isSome) || ((get e 11).isSome || (get e 12).isSome)
noncomputable def swapOk (ts es : List Expr) : Bool :=
  (ts.length == 2 || ts.length == 3) && (match ts with | t :: _ => ts.all (fun u => lineOf u == lineOf t) | [] => false) && es.any unfolded
noncomputable def distinct : List Str → Bool
  | [] => true
  | x :: xs => !xs.contains x && distinct xs
theorem distinctq1 : distinct [] = true := rfl
theorem distinctq2 (x_1 : PySem.Str) (xs : List PySem.Str) : distinct (x_1 :: xs) = (!xs.contains x_1 && distinct xs) := rfl
noncomputable def compOk (c : Cx) (ts : List Str) (s : Scope) : Bool :=
  c.inner.isEmpty && decide (ts = locsOf s) && capsIn c s && decide (s.kind = .function) && s.names.all (fun p => p.2 != .cell) && s.names.all (fun p => s.names.lookup p.1 == some p.2)
    && s.names.lookup ("__debug__" : Str) == none && distinct ts
inductive Bi where | len | abs | min | list | sorted
noncomputable def bis : List (Str × Bi) := [(("len" : Str), .len), (("abs" : Str), .abs), (("min" : Str), .min), (("list" : Str), .list), (("sorted" : Str), .sorted)]
noncomputable def biOf (c : Cx) (x : Str) : Option Bi := if c.isG x = true then bis.lookup x else none
inductive Ib where | range | enum | zip
noncomputable def ibs : List (Str × Ib) := [(("range" : Str), .range), (("enumerate" : Str), .enum), (("zip" : Str), .zip)]
noncomputable def ibOf (c : Cx) (e : Expr) : Option Ib := (nameOf e).bind fun x => if c.isG x = true then ibs.lookup x else none
noncomputable def fnOf (g : Glb) (c : Cx) (x : Str) : Option Nat := if c.isG x && g.fns.contains x then some (g.fns.idxOf x) else none
noncomputable def sliceOf (e : Expr) : Option (Option Expr × Option Expr × Option Expr) := (show Option (Option Expr × Option Expr × Option Expr × PySem.Pos) from get e 5).map fun p => (p.1, p.2.1, p.2.2.1)
noncomputable def attrOf (e : Expr) : Option (Expr × Str × PySem.Pos) := get e 6
noncomputable def subOf (e : Expr) : Option (Expr × Expr) := (show Option (Expr × Expr × PySem.Pos) from get e 7).map fun p => (p.1, p.2.1)
noncomputable def callOf (e : Expr) : Option (Expr × List Expr × List Keyword × PySem.Pos) := get e 8
noncomputable def trK : PySem.Const → Option Ex
  | .none => some .none
  | .bool b => some (.bool b)
  | .int i => some (.int i)
  | _ => none
noncomputable def binEx (op : PySem.Operator) (a b : Ex) : Option Ex :=
  match op with
  | .Add => some (.add a b)
  | .Sub => some (.sub a b)
  | .Mult => some (.mul a b)
  | .Mod => some (.mod a b)
  | _ => none
noncomputable def unEx (op : PySem.UnaryOp) (a : Ex) : Option Ex :=
  match op with
  | .USub => some (.neg a)
  | .Not => some (.not a)
  | _ => none
noncomputable def boolEx (op : PySem.BoolOp) (a b : Ex) : Ex :=
  match op with
  | .And => .and a b
  | .Or => .or a b
noncomputable def sortKw (g : Glb) (c : Cx) (kws : List Keyword) : Option (Nat × Expr) := do
  let p ← two kws
  let k ← p.1.arg
  let f ← nameOf p.1.value
  let r ← p.2.arg
  let i ← fnOf g c f
  if k == ("key" : Str) && r == ("reverse" : Str) then some (i, p.2.value) else none
noncomputable def varOf (c : Cx) (e : Expr) : Option Nat := (nameOf e).bind c.res
noncomputable def Cx.isL (c : Cx) (x : Str) : Bool := c.names.lookup x == some .local
noncomputable def Cx.isC (c : Cx) (x : Str) : Bool := c.names.lookup x == some .cell
noncomputable def isNm (e : Expr) : Bool := (nameOf e).isSome
noncomputable def isTup2 (e : Expr) : Bool := (tupOf e).any fun es => Nat.ble 2 es.length
noncomputable def tgtTwo (e : Expr) : Bool := isNm e || isTup2 e
noncomputable def notStar (e : Expr) : Bool := (get e 9).isNone
noncomputable def notSet (e : Expr) : Bool := (get e 10).isNone
noncomputable def tgtOk (t : Expr) : It → Bool
  | .val _ => isNm t || isTup2 t
  | .range _ => isNm t
  | .enum _ => isTup2 t
  | .zip _ _ => isTup2 t
noncomputable def trNm (g : Glb) (c : Cx) (x : Str) : Option Ex :=
  match c.res x with
  | some i => some (.var i)
  | none => if c.isG x then (g.consts.lookup x).map .int else none
noncomputable def trCh (fE : Expr → Option Ex) (l : Expr) (ops : List PySem.CmpOp) (rs : List Expr) : Option Ex := do
  let o ← two ops
  let r ← two rs
  let a ← fE l
  let b ← fE r.1
  let d ← fE r.2
  let p ← opOf o.1
  let q ← opOf o.2
  some (.chain p q a b d)
noncomputable def byVar (fE : Expr → Option Ex) (c : Cx) (v : Expr) (f : Nat → Ex) (g : Ex → Ex) : Option Ex :=
  match varOf c v with
  | some i => some (f i)
  | none => (fE v).map g
noncomputable def trIx (fE : Expr → Option Ex) (c : Cx) (v i : Expr) : Option Ex := do
  let b ← fE i
  byVar fE c v (fun k => .idxV k b) fun a => .idx a b
noncomputable def trSl0 (fE : Expr → Option Ex) (fO : Option Expr → Option Ox) (c : Cx) (v : Expr) (lo hi : Option Expr) : Option Ex := do
  let l ← fO lo
  let h ← fO hi
  byVar fE c v (fun i => .sliceV i l h) fun a => .slice a l h
noncomputable def trRev (fE : Expr → Option Ex) (v : Expr) (lo hi : Option Expr) (s : Expr) : Option Ex :=
  if lo.isNone && hi.isNone && isMinus1 s then (fE v).map .rev else none
noncomputable def trSl (fE : Expr → Option Ex) (fO : Option Expr → Option Ox) (c : Cx) (v : Expr) (p : Option Expr × Option Expr × Option Expr) : Option Ex :=
  match p.2.2 with
  | none => trSl0 fE fO c v p.1 p.2.1
  | some s => trRev fE v p.1 p.2.1 s
noncomputable def trSub (fE : Expr → Option Ex) (fO : Option Expr → Option Ox) (c : Cx) (v i : Expr) : Option Ex :=
  match sliceOf i with
  | some p => trSl fE fO c v p
  | none => trIx fE c v i
noncomputable def trPop (c : Cx) (f : Expr) (args : List Expr) (kws : List Keyword) (pos : PySem.Pos) : Option Ex := do
  let p ← attrOf f
  let x ← nameOf p.1
  let i ← c.res x
  if kws.isEmpty && (p.2.1 == ("pop" : Str) && p.2.2.endLine == pos.line) then (if args.isEmpty then some (.pop i) else if isZero args then some (.pop0 i) else none) else none
noncomputable def isRg : Ib → Bool
  | .range => true
  | _ => false
noncomputable def callI (c : Cx) (e : Expr) : Option (Ib × List Expr) := do
  let p ← callOf e
  let b ← ibOf c p.1
  if p.2.2.1.isEmpty then some (b, p.2.1) else none
noncomputable def trBi (fE : Expr → Option Ex) (g : Glb) (c : Cx) (args : List Expr) (kws : List Keyword) : Bi → Option Ex
  | .len => if kws.isEmpty then do let x ← one args; let a ← fE x; some (.len a) else none
  | .abs => if kws.isEmpty then do let x ← one args; let a ← fE x; some (.abs a) else none
  | .min => if kws.isEmpty then do let p ← two args; let a ← fE p.1; let b ← fE p.2; some (.min a b) else none
  | .list => do
    let y ← one args
    let p ← callI c y
    let x ← one p.2
    let a ← fE x
    if kws.isEmpty && isRg p.1 then some (.listRange a) else none
  | .sorted => do
    let x ← one args
    let q ← sortKw g c kws
    let a ← fE x
    let b ← fE q.2
    some (.sorted q.1 a b)
noncomputable def trIb (fE : Expr → Option Ex) (args : List Expr) : Ib → Option It
  | .range => do let x ← one args; let a ← fE x; some (.range a)
  | .enum => do let x ← one args; let a ← fE x; some (.enum a)
  | .zip => do let p ← two args; let a ← fE p.1; let b ← fE p.2; some (.zip a b)
mutual
noncomputable def trE (g : Glb) (c : Cx) : Nat → Expr → Option Ex
  | 0, _ => none
  | n + 1, e =>
    match e with
    | .Constant k _ _ => trK k
    | .Name x _ => trNm g c x
    | .BinOp l op r _ => do
      let a ← trE g c n l
      let b ← trE g c n r
      binEx op a b
    | .UnaryOp op x _ => do
      let a ← trE g c n x
      unEx op a
    | .BoolOp op vs _ => do
      let p ← two vs
      let a ← trE g c n p.1
      let b ← trE g c n p.2
      some (boolEx op a b)
    | .Compare l ops rs _ => (match one ops with
      | some op => do
        let r ← one rs
        trC g c n l op r
      | none => trCh (trE g c n) l ops rs)
    | .IfExp t x y _ => do
      let a ← trE g c n t
      let b ← trE g c n x
      let d ← trE g c n y
      some (.ite a b d)
    | .Subscript v i _ => trSub (trE g c n) (trO g c n) c v i
    | .Call f args kws pos => (match nameOf f with
      | some x => trCall g c n x args kws
      | none => trPop c f args kws pos)
    | .List es _ => do let l ← trL g c n es; some (.lst l)
    | .Tuple es _ _ => do let l ← trL g c n es; some (.tup l)
    | .Dict ks vs _ => if ks.isEmpty && vs.isEmpty then some .dict else none
    | .ListComp elt gens scope _ => do
      let gen ← one gens
      let ts ← tgtsOf gen.target
      let it ← trI g c n gen.iter
      if gen.is_async = 0 ∧ (compOk c ts scope && tgtOk gen.target it) = true then do
        let c' : Cx := { names := scope.names, outer := c.outer, inner := ts }
        let fs ← trL g c' n gen.ifs
        let y ← trE g c' n elt
        some (.comp (capsOf c.outer scope) ts.length it fs y)
      else none
    | _ => none
noncomputable def trC (g : Glb) (c : Cx) : Nat → Expr → PySem.CmpOp → Expr → Option Ex
  | 0, _, _, _ => none
  | n + 1, l, op, r => do
    let a ← trE g c n l
    match op with
    | .Is => if isNone' r then some (.isNone false a) else none
    | .IsNot => if isNone' r then some (.isNone true a) else none
    | .In => do let b ← trE g c n r; some (.inn false a b)
    | .NotIn => do let b ← trE g c n r; some (.inn true a b)
    | .Eq => (match varOf c l, isEmptyList r with
      | some x, true => some (.isNil false x)
      | _, _ => do let b ← trE g c n r; some (.cmp .eq a b))
    | .NotEq => (match varOf c l, isEmptyList r with
      | some x, true => some (.isNil true x)
      | _, _ => do let b ← trE g c n r; some (.cmp .ne a b))
    | op => do let b ← trE g c n r; let o ← opOf op; some (.cmp o a b)
noncomputable def trCall (g : Glb) (c : Cx) : Nat → Str → List Expr → List Keyword → Option Ex
  | 0, _, _, _ => none
  | n + 1, f, args, kws =>
    match fnOf g c f with
    | some k => if kws.isEmpty && !args.isEmpty then do let l ← trL g c n args; some (.call k l) else none
    | none => do
      let b ← biOf c f
      trBi (trE g c n) g c args kws b
noncomputable def trL (g : Glb) (c : Cx) : Nat → List Expr → Option Exs
  | 0, _ => none
  | _ + 1, [] => some .nil
  | n + 1, e :: es => do
    let a ← trE g c n e
    let r ← trL g c n es
    some (.cons a r)
noncomputable def trO (g : Glb) (c : Cx) : Nat → Option Expr → Option Ox
  | 0, _ => none
  | _ + 1, none => some .none
  | n + 1, some e => do let a ← trE g c n e; some (.some a)
noncomputable def trI (g : Glb) (c : Cx) : Nat → Expr → Option It
  | 0, _ => none
  | n + 1, e =>
    match callI c e with
    | some r => trIb (trE g c n) r.2 r.1
    | none => do let a ← trE g c n e; some (.val a)
end
theorem trLq3 (g : Glb) (c : Cx) (n : Nat) (e : PySem.Expr) (es : List PySem.Expr) :
  trL g c (n + 1) (e :: es) = (do
    let a ← trE g c n e
    let r ← trL g c n es
    some (Exs.cons a r)) := rfl
theorem trOq3 (g : Glb) (c : Cx) (n : Nat) (e : PySem.Expr) :
  trO g c (n + 1) (some e) = (do
    let a ← trE g c n e
    some (Ox.some a)) := rfl
inductive Me where | append | extend | remove
noncomputable def meOf (m : Str) : Option Me :=
  if m == ("append" : Str) then some .append
  else if m == ("extend" : Str) then some .extend
  else if m == ("remove" : Str) then some .remove
  else none
noncomputable def isListDisplay (e : Expr) : Bool := (listOf e).isSome
noncomputable def methOf (e : Expr) : Option (Expr × Str × Expr × Bool) := do
  let p ← callOf e
  let a ← attrOf p.1
  let x ← one p.2.1
  if p.2.2.1.isEmpty then some (a.1, a.2.1, x, a.2.2.endLine == p.2.2.2.line) else none
noncomputable def trName (g : Glb) (c : Cx) (n : Nat) (x : Str) (v : Expr) : Option Sm := do
  let i ← c.res x
  let a ← trE g c n v
  if c.isL x then some (.asg i a) else if c.isC x then some (.asgC i a) else none
noncomputable def trTupT (g : Glb) (c : Cx) (n : Nat) (us es : List Expr) (xs : List Str) (is : List Nat) : Option Sm := do
  let l ← trL g c n es
  if es.length = us.length && swapOk us es && xs.all c.isL && distinct xs then some (.asgT is l) else none
noncomputable def trTupV (g : Glb) (c : Cx) (n : Nat) (xs : List Str) (is : List Nat) (v : Expr) : Option Sm := do
  let a ← trE g c n v
  if xs.all c.isL then some (.unp is a) else none
noncomputable def trTup (g : Glb) (c : Cx) (n : Nat) (us : List Expr) (v : Expr) : Option Sm := do
  let xs ← namesOf us
  let is ← allSome (xs.map c.res)
  match tupOf v with
  | some es => trTupT g c n us es xs is
  | none => trTupV g c n xs is v
noncomputable def trSet (g : Glb) (c : Cx) (n : Nat) (w i v : Expr) : Option Sm := do
  let x ← nameOf w
  let k ← c.res x
  let b ← trE g c n i
  let a ← trE g c n v
  some (.setIdx k b a)
noncomputable def trAsg (g : Glb) (c : Cx) (n : Nat) (t v : Expr) : Option Sm :=
  match nameOf t with
  | some x => trName g c n x v
  | none => (match tupOf t with
    | some us => trTup g c n us v
    | none => do
      let q ← subOf t
      trSet g c n q.1 q.2 v)
noncomputable def meSm (y : Expr) (k : Nat) (a : Ex) : Me → Sm
  | .append => if isListDisplay y then .appendN k a else .append k a
  | .extend => .extend k a
  | .remove => .remove k a
noncomputable def trMN (g : Glb) (c : Cx) (n : Nat) (x m : Str) (y : Expr) (ln : Bool) : Option Sm := do
  let k ← c.res x
  let a ← trE g c n y
  let m ← meOf m
  if ln then some (meSm y k a m) else none
noncomputable def trML (c : Cx) (v : Expr) (m : Str) (y : Expr) (ln : Bool) : Option Sm := do
  let q ← subOf v
  let x ← nameOf q.1
  let k ← c.res x
  let z ← varOf c y
  if isMinus1 q.2 && ln && m == ("append" : Str) then some (.appendL k z) else none
noncomputable def trMeth (g : Glb) (c : Cx) (n : Nat) (e : Expr) : Option Sm := do
  let p ← methOf e
  match nameOf p.1 with
  | some x => trMN g c n x p.2.1 p.2.2.1 p.2.2.2
  | none => trML c p.1 p.2.1 p.2.2.1 p.2.2.2
mutual
noncomputable def trS (g : Glb) (c : Cx) : Nat → Stmt → Option Sm
  | 0, _ => none
  | n + 1, s =>
    match s with
    | .Assign ts v _ => do
      let t ← one ts
      trAsg g c n t v
    | .Expr e _ => trMeth g c n e
    | .For tgt it body els _ => do
      let xs ← tgtsOf tgt
      let is ← allSome (xs.map c.res)
      let i ← trI g c n it
      let b ← trSs g c n body
      if els.isEmpty ∧ (xs.all c.isL && tgtOk tgt i) = true then some (.forS is i b) else none
    | .While t body els _ => do
      let a ← trE g c n t
      let b ← trSs g c n body
      if els.isEmpty then some (.whileS a b) else none
    | .If t x y _ => do
      let a ← trE g c n t
      let b ← trSs g c n x
      let d ← trSs g c n y
      some (.ifS a b d)
    | .Return v _ => do let e ← v; let a ← trE g c n e; some (.ret a)
    | .Break _ => some .brk
    | _ => none
noncomputable def trSs (g : Glb) (c : Cx) : Nat → List Stmt → Option Sms
  | 0, _ => none
  | _ + 1, [] => some .nil
  | n + 1, s :: r => do
    let a ← trS g c n s
    let b ← trSs g c n r
    some (.cons a b)
end
theorem trSsq3 (g : Glb) (c : Cx) (n : Nat) (s : PySem.Stmt) (r : List PySem.Stmt) :
  trSs g c (n + 1) (s :: r) = (do
    let a ← trS g c n s
    let b ← trSs g c n r
    some (Sms.cons a b)) := rfl
noncomputable def trF (g : Glb) (args : PySem.Arguments) (body : List Stmt) (scope : Scope) : Option Fn := do
  let vs := varsOf scope
  let ps := args.args.map (·.arg)
  if decide (vs.take ps.length = ps) then do
    let b ← trSs g { names := scope.names, outer := vs, inner := [] } 60 body
    some { np := ps.length, nv := vs.length, body := b }
  else none
end Mini
end
section
set_option autoImplicit false
set_option linter.unusedVariables false
set_option linter.unusedSimpArgs false
namespace Mini
set_option tactic.hygienic false
open PySem PySem.W
noncomputable def krun {α : Type} (lt : Nat → Nat → Bool) : KasT α → α
  | .ret a => a
  | .ask i j k => krun lt (k (lt i j))
theorem krunq1 {α : Type} (lt : Nat → Nat → Bool) (a : α) : krun lt (PySem.W.KasT.ret a) = a := rfl
theorem krunq2 {α : Type} (lt : Nat → Nat → Bool) (i j : Nat) (k : Bool → PySem.W.KasT α) : krun lt (PySem.W.KasT.ask i j k) = krun lt (k (lt i j)) := rfl
noncomputable def kok {α : Type} (n : Nat) : KasT α → Bool
  | .ret _ => true
  | .ask i j k => decide (i < n) && decide (j < n) && kok n (k true) && kok n (k false)
theorem kokq1 {α : Type} (n : Nat) (a : α) : kok n (PySem.W.KasT.ret a) = true := rfl
theorem kokq2 {α : Type} (n i j : Nat) (k : Bool → PySem.W.KasT α) : kok n (PySem.W.KasT.ask i j k) = (decide (i < n) && decide (j < n) && kok n (k true) && kok n (k false)) := rfl
theorem krun_congr {α : Type} {n : Nat} {l1 l2 : Nat → Nat → Bool} (h : ∀ i j, i < n → j < n → l1 i j = l2 i j) : ∀ (t : KasT α), kok n t = true → krun l1 t = krun l2 t
  | .ret a, _ => rfl
  | .ask i j k, e => by
    simp only [kokq1, kokq2, Bool.and_eq_true, decide_eq_true_eq] at e
    simp only [krunq1, krunq2]
    rw [h i j e.1.1.1 e.1.1.2]
    cases l2 i j with
    | true => exact krun_congr h (k true) e.1.2
    | false => exact krun_congr h (k false) e.2
theorem kas_wp_run {α : Type} {n : Nat} {lt : Nat → Nat → Bool} {cmp : Nat → Nat → (Bool → Shared → Prop) → Shared → Prop} {G : α → Shared → Prop} {J : Shared → Prop}
    (hc : ∀ i j C s, i < n → j < n → J s → (∀ s', J s' → C (lt i j) s') → cmp i j C s) : ∀ (t : KasT α) (s : Shared), kok n t = true → J s → (∀ s', J s' → G (krun lt t) s') → t.kasWp cmp G s
  | .ret a, s, _, hJ, hG => hG s hJ
  | .ask i j k, s, e, hJ, hG => by
    simp only [kokq1, kokq2, Bool.and_eq_true, decide_eq_true_eq] at e
    refine hc i j _ s e.1.1.1 e.1.1.2 hJ fun s' hJ' => ?_
    simp only [krunq1, krunq2] at hG
    cases hl : lt i j with
    | true => rw [hl] at hG; exact kas_wp_run hc (k true) s' e.1.2 hJ' hG
    | false => rw [hl] at hG; exact kas_wp_run hc (k false) s' e.2 hJ' hG
noncomputable def allL (m : Nat) : Nat → List (List Nat)
  | 0 => [[]]
  | n + 1 => (allL m n).flatMap fun l => (List.range m).map fun i => i :: l
theorem allLq1 (m : Nat) : allL m 0 = [[]] := rfl
theorem allLq2 (m n : Nat) : allL m (n + 1) = List.flatMap (fun l => List.map (fun i => i :: l) (List.range m)) (allL m n) := rfl
theorem mem_allL {m : Nat} : ∀ (n : Nat) (l : List Nat), l.length = n → (∀ x ∈ l, x < m) → l ∈ allL m n
  | 0, l, e, h => by
    have : l = [] := List.length_eq_zero_iff.mp e
    subst this; simp [allLq1, allLq2]
  | n + 1, l, e, h => by
    cases l with
    | nil => cases e
    | cons a l =>
      simp only [allLq1, allLq2, List.mem_flatMap, List.mem_map, List.mem_range]
      exact ⟨l, mem_allL n l (by simpa using e) fun x q => h x (List.mem_cons_of_mem _ q), a, h a (by simp), rfl⟩
noncomputable def rl (ks : List Nat) (i j : Nat) : Bool := decide (ks.getD i 0 < ks.getD j 0)
noncomputable def goodN (n : Nat) : Bool := kok n (kas_sort n) && (allL n n).all fun ks => (krun (rl ks) (kas_sort n)).toList == isort (rl ks) (List.range n)
theorem good2 : goodN 2 = true := by decide +kernel
theorem good3 : goodN 3 = true := by decide +kernel
theorem good4 : goodN 4 = true := by decide +kernel
theorem good5 : goodN 5 = true := by decide +kernel
theorem good_all {n : Nat} (h2 : 2 ≤ n) (h5 : n ≤ 5) : goodN n = true := by
  have : n = 2 ∨ n = 3 ∨ n = 4 ∨ n = 5 := by (first | lia | omega)
  rcases this with rfl | rfl | rfl | rfl
  · exact good2
  · exact good3
  · exact good4
  · exact good5
theorem ins_congr {α : Type} {l1 l2 : α → α → Bool} {x : α} : ∀ (l : List α), (∀ a ∈ l, l1 a x = l2 a x) → ins l1 x l = ins l2 x l
  | [], _ => rfl
  | y :: r, h => by
    simp only [insq1, insq2]
    rw [h y (by simp), ins_congr r fun a q => h a (List.mem_cons_of_mem _ q)]
theorem mem_ins {α : Type} {lt : α → α → Bool} {x a : α} : ∀ (l : List α), a ∈ ins lt x l ↔ a = x ∨ a ∈ l
  | [] => by simp [insq1, insq2]
  | y :: r => by
    simp only [insq1, insq2]
    split
    · simp only [List.mem_cons, mem_ins r]
      constructor
      · rintro (h | h | h)
        · exact .inr (.inl h)
        · exact .inl h
        · exact .inr (.inr h)
      · rintro (h | h | h)
        · exact .inr (.inl h)
        · exact .inl h
        · exact .inr (.inr h)
    · simp
theorem mem_isort {α : Type} {lt : α → α → Bool} {a : α} : ∀ (l : List α), a ∈ isort lt l ↔ a ∈ l
  | [] => by simp [isortq1, isortq2]
  | x :: r => by simp only [isortq1, isortq2, mem_ins, mem_isort r, List.mem_cons]
theorem isort_congr {α : Type} {l1 l2 : α → α → Bool} : ∀ (l : List α), (∀ a ∈ l, ∀ b ∈ l, l1 a b = l2 a b) → isort l1 l = isort l2 l
  | [], _ => rfl
  | x :: r, h => by
    simp only [isortq1, isortq2]
    rw [isort_congr r fun a p b q => h a (List.mem_cons_of_mem _ p) b (List.mem_cons_of_mem _ q)]
    exact ins_congr _ fun a q => h a (List.mem_cons_of_mem _ ((mem_isort r).mp q)) x (by simp)
theorem ins_map {α β : Type} {f : α → β} {lt : β → β → Bool} {x : α} : ∀ (l : List α), ins lt (f x) (l.map f) = (ins (fun a b => lt (f a) (f b)) x l).map f
  | [] => rfl
  | y :: r => by
    simp only [List.map_cons, insq1, insq2]
    split
    · simp [ins_map r]
    · simp
theorem isort_map {α β : Type} {f : α → β} {lt : β → β → Bool} : ∀ (l : List α), isort lt (l.map f) = (isort (fun a b => lt (f a) (f b)) l).map f
  | [] => rfl
  | x :: r => by
    simp only [List.map_cons, isortq1, isortq2]
    rw [isort_map r, ins_map]
theorem ins_len {α : Type} {lt : α → α → Bool} {x : α} : ∀ (l : List α), (ins lt x l).length = l.length + 1
  | [] => rfl
  | y :: r => by
    simp only [insq1, insq2]
    split
    · simp [ins_len r]
    · simp
theorem isort_len {α : Type} {lt : α → α → Bool} : ∀ (l : List α), (isort lt l).length = l.length
  | [] => rfl
  | x :: r => by simp [isortq1, isortq2, ins_len, isort_len r]
structure Weak {α : Type} (lt : α → α → Bool) : Prop where
  irr : ∀ a, lt a a = false
  neg : ∀ a b c, lt a c = true → lt a b = true ∨ lt b c = true
  tr : ∀ a b c, lt a b = true → lt b c = true → lt a c = true
noncomputable def rank (lt : Nat → Nat → Bool) (n i : Nat) : Nat := (List.range n).countP fun j => lt j i
theorem countP_lt {α : Type} {p q : α → Bool} (hpq : ∀ a, p a = true → q a = true) : ∀ (l : List α) (x : α), x ∈ l → p x = false → q x = true → l.countP p < l.countP q
  | [], x, h, _, _ => by cases h
  | a :: l, x, h, hp, hq => by
    have hle : l.countP p ≤ l.countP q := List.countP_mono_left fun a _ => hpq a
    rcases List.mem_cons.mp h with rfl | h
    · rw [List.countP_cons, List.countP_cons, hp, hq]; simp; (first | lia | omega)
    · have := countP_lt hpq l x h hp hq
      rw [List.countP_cons, List.countP_cons]
      have : (if p a = true then 1 else 0) ≤ (if q a = true then 1 else 0) := by
        by_cases e : p a = true
        · rw [if_pos e, if_pos (hpq a e)]; exact Nat.le_refl _
        · rw [if_neg e]; exact Nat.zero_le _
      (first | lia | omega)
theorem rank_lt {lt : Nat → Nat → Bool} (W : Weak lt) {n i j : Nat} (hi : i < n) : lt i j = decide (rank lt n i < rank lt n j) := by
  cases h : lt i j with
  | true =>
    symm
    rw [decide_eq_true_eq]
    exact countP_lt (fun a q => W.tr a i j q h) _ i (List.mem_range.mpr hi) (W.irr i) h
  | false =>
    symm
    rw [decide_eq_false_iff_not]
    refine Nat.not_lt.mpr (List.countP_mono_left fun a _ q => ?_)
    rcases W.neg a i j q with z | z
    · exact z
    · rw [h] at z; cases z
theorem rank_le {lt : Nat → Nat → Bool} (W : Weak lt) {n i : Nat} (hi : i < n) : rank lt n i < n := by
  have h := countP_lt (p := fun j => lt j i) (q := fun _ => true) (fun _ _ => rfl) (List.range n) i (List.mem_range.mpr hi) (W.irr i) rfl
  have e : (List.range n).countP (fun _ => true) = n := by simp
  rw [e] at h; exact h
theorem kas_stable {lt : Nat → Nat → Bool} (W : Weak lt) {n : Nat} (h2 : 2 ≤ n) (h5 : n ≤ 5) : kok n (kas_sort n) = true ∧ (krun lt (kas_sort n)).toList = isort lt (List.range n) := by
  have hg := good_all h2 h5
  simp only [goodN, Bool.and_eq_true, List.all_eq_true] at hg
  refine ⟨hg.1, ?_⟩
  have hm := hg.2 ((List.range n).map (rank lt n)) (mem_allL n _ (by simp) fun x q => by
    obtain ⟨i, hi, rfl⟩ := List.mem_map.mp q
    exact rank_le W (List.mem_range.mp hi))
  have hr : ∀ i j, i < n → j < n → lt i j = rl ((List.range n).map (rank lt n)) i j := fun i j hi hj => by
    rw [rank_lt W hi]
    unfold rl
    have e : ∀ k, k < n → ((List.range n).map (rank lt n)).getD k 0 = rank lt n k := fun k hk => by
      simp [List.getD, hk]
    rw [e i hi, e j hj]
  rw [krun_congr hr _ hg.1, eq_of_beq hm]
  exact (isort_congr _ fun a p b q => hr a b (List.mem_range.mp p) (List.mem_range.mp q)).symm
theorem ltI_irr : ∀ a : List Int, ltI a a = false
  | [] => rfl
  | x :: a => by simp [ltIq1, ltIq2, ltIq3, ltIq4, ltI_irr a]
theorem ltI_neg : ∀ a b c : List Int, ltI a c = true → ltI a b = true ∨ ltI b c = true
  | [], b, [], h => by cases h
  | [], [], c :: cs, h => .inr rfl
  | [], b :: bs, c :: cs, h => .inl rfl
  | a :: as, b, [], h => by cases h
  | a :: as, [], c :: cs, h => .inr rfl
  | a :: as, b :: bs, c :: cs, h => by
    simp only [ltIq1, ltIq2, ltIq3, ltIq4] at h ⊢
    by_cases h1 : a = b
    · subst h1
      by_cases h2 : a = c
      · subst h2; simp at h ⊢; exact ltI_neg as bs cs h
      · simp [h2] at h ⊢; exact .inr h
    · by_cases h2 : b = c
      · subst h2; simp [h1] at h ⊢; exact .inl h
      · by_cases h3 : a = c
        · subst h3; simp [h1, h2]; (first | lia | omega)
        · simp [h1, h2, h3] at h ⊢; (first | lia | omega)
theorem ltI_tr : ∀ a b c : List Int, ltI a b = true → ltI b c = true → ltI a c = true
  | [], [], c, h, _ => by cases h
  | [], b :: bs, [], _, h => by cases h
  | [], b :: bs, c :: cs, _, _ => rfl
  | a :: as, [], c, h, _ => by cases h
  | a :: as, b :: bs, [], _, h => by cases h
  | a :: as, b :: bs, c :: cs, h1, h2 => by
    simp only [ltIq1, ltIq2, ltIq3, ltIq4] at h1 h2 ⊢
    by_cases e1 : a = b
    · subst e1
      by_cases e2 : a = c
      · subst e2; simp at h1 h2 ⊢; exact ltI_tr as bs cs h1 h2
      · simp [e2] at h2 ⊢; exact h2
    · by_cases e2 : b = c
      · subst e2; simp [e1] at h1 ⊢; exact h1
      · simp [e1, e2] at h1 h2
        have : a ≠ c := by (first | lia | omega)
        simp [this]; (first | lia | omega)
end Mini
end
section
set_option autoImplicit false
set_option linter.unusedVariables false
set_option linter.unusedSimpArgs false
namespace Mini
set_option tactic.hygienic false
open PySem PySem.Calls PyProof.Rows
noncomputable abbrev Frz := Addr → Option Obj
mutual
inductive Rep (f : Frz) : Value → D → Prop
  | none : Rep f .none .none
  | bool (b : Bool) : Rep f (.bool b) (.bool b)
  | int (i : Int) (t : Tok) : Rep f (.int i t) (.int i)
  | list {a : Addr} {vs : Array Value} {n : Nat} {l : List D} : f a = some (seqObj "list" vs n) → l.length ≤ lim → RepL f vs.toList l → Rep f (.ref a) (.list l)
  | tup {a : Addr} {vs : Array Value} {n : Nat} {l : List D} : f a = some (seqObj "tuple" vs n) → l.length ≤ lim → RepL f vs.toList l → Rep f (.ref a) (.tup l)
inductive RepL (f : Frz) : List Value → List D → Prop
  | nil : RepL f [] []
  | cons {v : Value} {vs : List Value} {d : D} {ds : List D} : Rep f v d → RepL f vs ds → RepL f (v :: vs) (d :: ds)
end
noncomputable def Sub (f f' : Frz) : Prop := ∀ a o, f a = some o → f' a = some o
mutual
theorem Rep.mono {f f' : Frz} (h : Sub f f') : ∀ {v : Value} {d : D}, Rep f v d → Rep f' v d
  | _, _, .none => .none
  | _, _, .bool b => .bool b
  | _, _, .int i t => .int i t
  | _, _, .list e k r => .list (h _ _ e) k (RepL.mono h r)
  | _, _, .tup e k r => .tup (h _ _ e) k (RepL.mono h r)
theorem RepL.mono {f f' : Frz} (h : Sub f f') : ∀ {vs : List Value} {ds : List D}, RepL f vs ds → RepL f' vs ds
  | _, _, .nil => .nil
  | _, _, .cons r rs => .cons (Rep.mono h r) (RepL.mono h rs)
end
theorem RepL.length {f : Frz} : ∀ {vs : List Value} {ds : List D}, RepL f vs ds → vs.length = ds.length
  | _, _, .nil => rfl
  | _, _, .cons _ rs => by simp [rs.length]
theorem RepL.append {f : Frz} : ∀ {vs ws : List Value} {ds es : List D}, RepL f vs ds → RepL f ws es → RepL f (vs ++ ws) (ds ++ es)
  | _, _, _, _, .nil, r => r
  | _, _, _, _, .cons h rs, r => .cons h (rs.append r)
theorem RepL.get {f : Frz} : ∀ {vs : List Value} {ds : List D} (i : Nat) {d : D}, RepL f vs ds → ds[i]? = some d → ∃ v, vs[i]? = some v ∧ Rep f v d
  | _, _, i, d, .nil, e => by simp at e
  | _, _, 0, d, .cons (v := v) h rs, e => by
    simp only [List.getElem?_cons_zero, Option.some.injEq] at e; subst e
    exact ⟨v, rfl, h⟩
  | _, _, i + 1, d, .cons h rs, e => by
    simp only [List.getElem?_cons_succ] at e ⊢
    exact rs.get i e
theorem RepL.take {f : Frz} : ∀ {vs : List Value} {ds : List D} (n : Nat), RepL f vs ds → RepL f (vs.take n) (ds.take n)
  | _, _, _, .nil => by simpa using RepL.nil
  | _, _, 0, .cons _ _ => by simpa using RepL.nil
  | _, _, n + 1, .cons h rs => by simpa using RepL.cons h (rs.take n)
theorem RepL.drop {f : Frz} : ∀ {vs : List Value} {ds : List D} (n : Nat), RepL f vs ds → RepL f (vs.drop n) (ds.drop n)
  | _, _, _, .nil => by simpa using RepL.nil
  | _, _, 0, .cons h rs => by simpa using RepL.cons h rs
  | _, _, n + 1, .cons _ rs => by simpa using rs.drop n
theorem RepL.reverse {f : Frz} : ∀ {vs : List Value} {ds : List D}, RepL f vs ds → RepL f vs.reverse ds.reverse
  | _, _, .nil => by simpa using RepL.nil
  | _, _, .cons h rs => by simpa using rs.reverse.append (RepL.cons h .nil)
theorem RepL.set {f : Frz} : ∀ {vs : List Value} {ds : List D} (i : Nat) {v : Value} {d : D}, RepL f vs ds → Rep f v d → RepL f (vs.set i v) (ds.set i d)
  | _, _, _, _, _, .nil, _ => by simpa using RepL.nil
  | _, _, 0, _, _, .cons _ rs, r => by simpa using RepL.cons r rs
  | _, _, i + 1, _, _, .cons h rs, r => by simpa using RepL.cons h (rs.set i r)
structure Fx where
  env : Env
  names : List (Option Str)
  hb : Heap
  dk : Option Addr
  prog : Program
  w : World
inductive SlotOk (f : Frz) (h : Heap) (X : Fx) : Value → List Addr → Slot → Prop
  | unset {v : Value} {ar : List Addr} : (∀ a ∈ ar, ∃ o, h.get? a = some o) → SlotOk f h X v ar .unset
  | fro {v : Value} {d : D} : Rep f v d → SlotOk f h X v [] (.fro d)
  | own {a : Addr} {ws : Array Value} {n : Nat} {l : List D} : h.get? a = some (seqObj "list" ws n) → l.length ≤ lim → RepL f ws.toList l → SlotOk f h X (.ref a) [a] (.own l)
  | nest {a b : Addr} {ws us : Array Value} {n m : Nat} {done last : List D} : h.get? a = some (seqObj "list" (ws.push (.ref b)) n) → done.length < lim → RepL f ws.toList done →
      h.get? b = some (seqObj "list" us m) → last.length ≤ lim → RepL f us.toList last → SlotOk f h X (.ref a) [a, b] (.nest done last)
  | dct {a : Addr} {kvs : List (Int × Value)} : h.DictOf (intKind X.prog X.w) a kvs → kvs.length ≤ lim → (a == sysModules) = false → SlotOk f h X (.ref a) [a] (.dct (kvs.map (·.1)))
  | deck {a : Addr} : X.dk = some a → SlotOk f h X (.ref a) [] .deck
theorem SlotOk.mono {f f' : Frz} {h h' : Heap} {X : Fx} {v : Value} {as : List Addr} {s : Slot} (x : SlotOk f h X v as s) (hf : Sub f f')
    (hh : ∀ a ∈ as, ∀ o, h.get? a = some o → h'.get? a = some o) : SlotOk f' h' X v as s := by
  cases x with
  | unset e => exact .unset fun a q => let ⟨o, e'⟩ := e a q; ⟨o, hh a q o e'⟩
  | fro r => exact .fro (r.mono hf)
  | own e k r => exact .own (hh _ (by simp) _ e) k (r.mono hf)
  | nest e k r e' k' r' => exact .nest (hh _ (by simp) _ e) k (r.mono hf) (hh _ (by simp) _ e') k' (r'.mono hf)
  | dct e k k' => exact .dct (e.at fun o q => hh _ (by simp) o q) k k'
  | deck e => exact .deck e
noncomputable def Binds (env : Env) (f : Frz) (m : Str → Option Value) (x : Str) (v : Value) : Prop :=
  (env.kindOf x = some .local ∧ m x = some v) ∨
  ((env.kindOf x = some .cell ∨ (env.kindOf x = some .free ∧ (x == ("__classdict__" : Str)) = false)) ∧ ∃ c o, env.cells.lookup x = some c ∧ f c = some o ∧ o.data = .cell (some v))
structure Inv (X : Fx) (P f : Frz) (st : St) (vs : Nat → Value) (as : Nat → List Addr) (h : Heap) : Prop where
  frz : ∀ a o, f a = some o → h.get? a = some o
  prs : ∀ a o, P a = some o → h.get? a = some o
  base : ∀ a o, X.hb.get? a = some o → P a = some o
  len : st.v.length = X.names.length
  ns : ∃ m, h.Ns X.env.locals m ∧ ∀ i s x, st.v[i]? = some s → X.names[i]? = some (some x) → s ≠ .unset → Binds X.env f m x (vs i)
  slot : ∀ i s, st.v[i]? = some s → SlotOk f h X (vs i) (as i) s
  cel : ∀ i x, st.v[i]? = some .unset → X.names[i]? = some (some x) → X.env.kindOf x = some .cell → ∃ cc o, X.env.cells.lookup x = some cc ∧ h.get? cc = some o ∧ o.data = .cell none ∧ as i = [cc]
  out : ∀ i, st.v.length ≤ i → as i = []
  deck : ∀ a, X.dk = some a → ∃ ws n, h.get? a = some (seqObj "list" ws n) ∧ IntsAre ws.toList st.dk ∧ st.dk.length ≤ lim
  locF : f X.env.locals = none ∧ P X.env.locals = none
  dkF : ∀ a, X.dk = some a → f a = none ∧ P a = none ∧ a ≠ X.env.locals
  asF : ∀ i a, a ∈ as i → f a = none ∧ P a = none ∧ a ≠ X.env.locals ∧ X.dk ≠ some a
  asN : ∀ i, (as i).Nodup
  asD : ∀ i j a, i ≠ j → a ∈ as i → a ∉ as j
structure Res (X : Fx) (P f : Frz) (as : Nat → List Addr) (h : Heap) (v : Value) (s : Slot) (ar : List Addr) : Prop where
  ok : SlotOk f h X v ar s
  fr : ∀ a, a ∈ ar → f a = none ∧ P a = none ∧ a ≠ X.env.locals ∧ X.dk ≠ some a ∧ ∀ i, a ∉ as i
  nd : ar.Nodup
structure Grow (P f f' : Frz) : Prop where
  sub : Sub f f'
  off : ∀ a, f a = none → P a ≠ none → f' a = none
theorem Grow.refl (P f : Frz) : Grow P f f := ⟨fun _ _ e => e, fun _ e _ => e⟩
theorem Grow.trans {P f f' f'' : Frz} (a : Grow P f f') (b : Grow P f' f'') : Grow P f f'' :=
  ⟨fun x o e => b.sub x o (a.sub x o e), fun x e k => b.off x (a.off x e k) k⟩
theorem Grow.less {P P' f f' : Frz} (a : Grow P' f f') (h : ∀ x, P x ≠ none → P' x ≠ none) : Grow P f f' :=
  ⟨a.sub, fun x e k => a.off x e (h x k)⟩
structure Same (s s' : Shared) : Prop where
  gens : s'.gens = s.gens
  drawn : s'.drawn = s.drawn
  os : s'.os = s.os
theorem Same.refl (s : Shared) : Same s s := ⟨rfl, rfl, rfl⟩
theorem Same.trans {a b c : Shared} (x : Same a b) (y : Same b c) : Same a c := ⟨y.1.trans x.1, y.2.trans x.2, y.3.trans x.3⟩
theorem Same.mk' (s : Shared) (h : Heap) (t : Nat) : Same s { s with heap := h, toks := t } := ⟨rfl, rfl, rfl⟩
noncomputable def Frz.put (f : Frz) (a : Addr) (o : Obj) : Frz := fun b => if b = a then some o else f b
theorem Frz.put_self (f : Frz) (a : Addr) (o : Obj) : f.put a o a = some o := by simp [Frz.put]
theorem Frz.put_ne (f : Frz) {a b : Addr} (o : Obj) (h : b ≠ a) : f.put a o b = f b := by simp [Frz.put, h]
theorem Frz.put_sub {f : Frz} {a : Addr} (o : Obj) (h : f a = none) : Sub f (f.put a o) := fun b o' e => by
  have : b ≠ a := fun q => by rw [q, h] at e; cases e
  rw [Frz.put_ne f o this]; exact e
theorem Binds.mono {env : Env} {f f' : Frz} {m : Str → Option Value} {x : Str} {v : Value} (h : Sub f f') (b : Binds env f m x v) : Binds env f' m x v := by
  rcases b with b | ⟨k, c, o, e, g, d⟩
  · exact .inl b
  · exact .inr ⟨k, c, o, e, h _ _ g, d⟩
section
variable {X : Fx} {P f : Frz} {st : St} {vs : Nat → Value} {as : Nat → List Addr} {h : Heap}
theorem Inv.ext (I : Inv X P f st vs as h) {h' : Heap} (k : ∀ a o, h.get? a = some o → h'.get? a = some o) : Inv X P f st vs as h' where
  frz a o e := k a o (I.frz a o e)
  prs a o e := k a o (I.prs a o e)
  base := I.base
  len := I.len
  ns := let ⟨m, n, b⟩ := I.ns; ⟨m, n.keeps k, b⟩
  slot i s e := (I.slot i s e).mono (fun _ _ e => e) fun a _ o e => k a o e
  cel i x e1 e2 e3 := let ⟨cc, o, h1, h2, h3⟩ := I.cel i x e1 e2 e3; ⟨cc, o, h1, k _ _ h2, h3⟩
  out := I.out
  deck a e := let ⟨ws, n, g, r⟩ := I.deck a e; ⟨ws, n, k _ _ g, r⟩
  locF := I.locF
  dkF := I.dkF
  asF := I.asF
  asN := I.asN
  asD := I.asD
theorem Res.ext {v : Value} {sl : Slot} {ar : List Addr} (R : Res X P f as h v sl ar) {h' : Heap} (k : ∀ a o, h.get? a = some o → h'.get? a = some o) : Res X P f as h' v sl ar :=
  ⟨R.ok.mono (fun _ _ e => e) fun a _ o e => k a o e, R.fr, R.nd⟩
theorem Inv.put (I : Inv X P f st vs as h) {a : Addr} {o : Obj} (e : h.get? a = some o) (hf : f a = none) (hl : a ≠ X.env.locals) (hd : X.dk ≠ some a) (ha : ∀ i, a ∉ as i) : Inv X P (f.put a o) st vs as h where
  frz b o' q := by
    by_cases hb : b = a
    · subst hb; rw [Frz.put_self] at q; cases q; exact e
    · rw [Frz.put_ne f o hb] at q; exact I.frz b o' q
  prs := I.prs
  base := I.base
  len := I.len
  ns := let ⟨m, n, b⟩ := I.ns; ⟨m, n, fun i s x e1 e2 e3 => (b i s x e1 e2 e3).mono (Frz.put_sub o hf)⟩
  slot i s q := (I.slot i s q).mono (Frz.put_sub o hf) fun _ _ _ e => e
  cel := I.cel
  out := I.out
  deck := I.deck
  locF := ⟨by rw [Frz.put_ne f o hl.symm]; exact I.locF.1, I.locF.2⟩
  dkF b q := by
    have hb : b ≠ a := fun z => hd (z ▸ q)
    obtain ⟨h1, h2⟩ := I.dkF b q
    exact ⟨by rw [Frz.put_ne f o hb]; exact h1, h2⟩
  asF i b q := by
    have hb : b ≠ a := fun z => ha i (z ▸ q)
    obtain ⟨h1, h2⟩ := I.asF i b q
    exact ⟨by rw [Frz.put_ne f o hb]; exact h1, h2⟩
  asN := I.asN
  asD := I.asD
theorem Grow.put {P f : Frz} {a : Addr} (o : Obj) (hf : f a = none) (hp : P a = none) : Grow P f (f.put a o) :=
  ⟨Frz.put_sub o hf, fun b e k => by
    have : b ≠ a := fun q => k (q ▸ hp)
    rw [Frz.put_ne f o this]; exact e⟩
noncomputable def updF {α : Type} (g : Nat → α) (i : Nat) (x : α) : Nat → α := fun j => if j = i then x else g j
theorem updF_self {α : Type} (g : Nat → α) (i : Nat) (x : α) : updF g i x i = x := by simp [updF]
theorem updF_ne {α : Type} (g : Nat → α) {i j : Nat} (x : α) (h : j ≠ i) : updF g i x j = g j := by simp [updF, h]
theorem Inv.drop (I : Inv X P f st vs as h) (i : Nat) {s' : Slot} {f' : Frz} (hs : i < st.v.length) (hf : Sub f f') (hfz : ∀ a o, f' a = some o → h.get? a = some o)
    (hn : ∀ a, a ∉ as i → f' a = f a) (ok : SlotOk f' h X (vs i) [] s') (hu : ∀ s, st.v[i]? = some s → s ≠ .unset) (hu' : s' ≠ .unset) :
    Inv X P f' { st with v := st.v.set i s' } vs (updF as i []) h where
  frz := hfz
  prs := I.prs
  base := I.base
  len := by simpa using I.len
  ns := by
    obtain ⟨m, n, b⟩ := I.ns
    refine ⟨m, n, fun j s x e1 e2 e3 => ?_⟩
    by_cases hj : i = j
    · subst hj
      exact (b i _ x (List.getElem?_eq_getElem hs) e2 (hu _ (List.getElem?_eq_getElem hs))).mono hf
    · rw [List.getElem?_set_ne hj] at e1; exact (b j s x e1 e2 e3).mono hf
  slot j s e := by
    by_cases hj : i = j
    · subst hj
      rw [List.getElem?_set_self hs] at e; cases e
      rw [updF_self]; exact ok
    · rw [List.getElem?_set_ne hj] at e; rw [updF_ne as _ (Ne.symm hj)]; exact (I.slot j s e).mono hf fun _ _ _ e => e
  cel j x e1 e2 e3 := by
    by_cases hj : i = j
    · subst hj
      rw [List.getElem?_set_self hs] at e1
      exact absurd (Option.some.inj e1) hu'
    · rw [List.getElem?_set_ne hj] at e1; rw [updF_ne as _ (Ne.symm hj)]; exact I.cel j x e1 e2 e3
  out j e := by
    by_cases hj : j = i
    · subst hj; exact updF_self ..
    · rw [updF_ne as _ hj]; exact I.out j (by simpa using e)
  deck := I.deck
  locF := ⟨by rw [hn _ fun q => (I.asF i _ q).2.2.1 rfl]; exact I.locF.1, I.locF.2⟩
  dkF a q := ⟨by rw [hn _ fun z => (I.asF i _ z).2.2.2 q]; exact (I.dkF a q).1, (I.dkF a q).2⟩
  asF j a q := by
    by_cases hj : j = i
    · subst hj; rw [updF_self] at q; cases q
    · rw [updF_ne as _ hj] at q
      rw [hn a (I.asD j i a hj q)]; exact I.asF j a q
  asN j := by
    by_cases hj : j = i
    · subst hj; rw [updF_self]; exact List.nodup_nil
    · rw [updF_ne as _ hj]; exact I.asN j
  asD j k a hjk q q' := by
    by_cases hj : j = i
    · subst hj; rw [updF_self] at q; cases q
    · by_cases hk : k = i
      · subst hk; rw [updF_self] at q'; cases q'
      · rw [updF_ne as _ hj] at q; rw [updF_ne as _ hk] at q'; exact I.asD j k a hjk q q'
theorem Inv.hold (I : Inv X P f st vs as h) {a : Addr} {o : Obj} (e : h.get? a = some o) (hp : P a = none) (hl : a ≠ X.env.locals) (hd : X.dk ≠ some a) (ha : ∀ i, a ∉ as i) : Inv X (P.put a o) f st vs as h where
  frz := I.frz
  prs b o' q := by
    by_cases hb : b = a
    · subst hb; rw [Frz.put_self] at q; cases q; exact e
    · rw [Frz.put_ne P o hb] at q; exact I.prs b o' q
  base b o' q := Frz.put_sub o hp _ _ (I.base b o' q)
  len := I.len
  ns := I.ns
  slot := I.slot
  cel := I.cel
  out := I.out
  deck := I.deck
  locF := ⟨I.locF.1, by rw [Frz.put_ne P o hl.symm]; exact I.locF.2⟩
  dkF b q := by
    have hb : b ≠ a := fun z => hd (z ▸ q)
    obtain ⟨h1, h2, h3⟩ := I.dkF b q
    exact ⟨h1, by rw [Frz.put_ne P o hb]; exact h2, h3⟩
  asF i b q := by
    have hb : b ≠ a := fun z => ha i (z ▸ q)
    obtain ⟨h1, h2, h3⟩ := I.asF i b q
    exact ⟨h1, by rw [Frz.put_ne P o hb]; exact h2, h3⟩
  asN := I.asN
  asD := I.asD
theorem Inv.less {P' : Frz} (I : Inv X P' f st vs as h) (k : Sub P P') (b : ∀ a o, X.hb.get? a = some o → P a = some o) : Inv X P f st vs as h := by
  have none_of : ∀ a, P' a = none → P a = none := fun a e => by
    cases q : P a with
    | none => rfl
    | some o => rw [k a o q] at e; cases e
  exact { I with
    prs := fun a o e => I.prs a o (k a o e)
    base := b
    locF := ⟨I.locF.1, none_of _ I.locF.2⟩
    dkF := fun a q => let ⟨h1, h2, h3⟩ := I.dkF a q; ⟨h1, none_of _ h2, h3⟩
    asF := fun i a q => let ⟨h1, h2, h3⟩ := I.asF i a q; ⟨h1, none_of _ h2, h3⟩ }
set_option tactic.hygienic true in
theorem Res.freeze (I : Inv X P f st vs as h) {v : Value} {s : Slot} {ar : List Addr} (R : Res X P f as h v s ar) {d : D} (e : s.frz = some d) :
    ∃ f', Grow P f f' ∧ Inv X P f' st vs as h ∧ Rep f' v d := by
  cases s with
  | unset => cases e
  | dct ks => cases e
  | deck => cases e
  | fro d' =>
    cases e
    cases R.ok with
    | fro r => exact ⟨f, .refl P f, I, r⟩
  | own l =>
    cases e
    obtain ⟨ok, fr, nd⟩ := R
    cases ok with
    | own g k r =>
      rename_i a ws n
      obtain ⟨h1, h2, h3, h4, h5⟩ := fr a (by simp)
      exact ⟨f.put _ _, .put _ h1 h2, I.put g h1 h3 h4 h5, .list (Frz.put_self ..) k (r.mono (Frz.put_sub _ h1))⟩
  | nest done last =>
    cases e
    obtain ⟨ok, fr, nd⟩ := R
    cases ok with
    | nest g k r g' k' r' =>
      rename_i a b ws us n m
      obtain ⟨h1, h2, h3, h4, h5⟩ := fr a (by simp)
      obtain ⟨h1', h2', h3', h4', h5'⟩ := fr b (by simp)
      have hab : a ≠ b := by simpa using nd
      have q1 : (f.put b (seqObj "list" us m)) a = none := by rw [Frz.put_ne f _ hab]; exact h1
      have s1 := Frz.put_sub (f := f) (a := b) (seqObj "list" us m) h1'
      have s2 := Frz.put_sub (f := f.put b (seqObj "list" us m)) (a := a) (seqObj "list" (ws.push (.ref b)) n) q1
      refine ⟨(f.put b (seqObj "list" us m)).put a (seqObj "list" (ws.push (.ref b)) n), (Grow.put _ h1' h2').trans (.put _ q1 h2), (I.put g' h1' h3' h4' h5').put g q1 h3 h4 h5, ?_⟩
      refine .list (Frz.put_self ..) (by simp; (first | lia | omega)) ?_
      rw [Array.toList_push]
      refine ((r.mono s1).mono s2).append (.cons ?_ .nil)
      exact .list (s2 _ _ (Frz.put_self ..)) k' ((r'.mono s1).mono s2)
set_option tactic.hygienic true in
theorem Inv.readSlot (I : Inv X P f st vs as h) {i : Nat} {s : Slot} (e : st.v[i]? = some s) (hu : s ≠ .unset) (hd : ∀ ks, s ≠ .dct ks) :
    ∃ f' as', Grow P f f' ∧ Inv X P f' { st with v := st.v.set i s.read } vs as' h ∧ SlotOk f' h X (vs i) [] s.read := by
  have hi : i < st.v.length := by
    rcases Nat.lt_or_ge i st.v.length with q | q
    · exact q
    · rw [List.getElem?_eq_none q] at e; cases e
  have hu' : ∀ s', st.v[i]? = some s' → s' ≠ .unset := fun s' q => by rw [e] at q; cases q; exact hu
  have ok := I.slot i s e
  have hF := I.asF i
  have hN := I.asN i
  have D := fun f' hf hfz hn ok => I.drop i (s' := s.read) (f' := f') hi hf hfz hn ok hu' (by cases s <;> first | exact absurd rfl hu | simp [Slot.read])
  generalize hv : vs i = v at ok D
  generalize ha : as i = ai at ok D hF hN
  cases ok with
  | unset _ => exact absurd rfl hu
  | dct => exact absurd rfl (hd _)
  | fro r => exact ⟨f, _, .refl P f, D f (fun _ _ e => e) I.frz (fun _ _ => rfl) (.fro r), .fro r⟩
  | deck q => exact ⟨f, _, .refl P f, D f (fun _ _ e => e) I.frz (fun _ _ => rfl) (.deck q), .deck q⟩
  | own g k r =>
    rename_i a ws n l
    obtain ⟨h1, h2, h3, h4⟩ := hF a (by simp)
    have ok' : SlotOk (f.put a (seqObj "list" ws n)) h X (.ref a) [] (.fro (.list l)) := .fro (.list (Frz.put_self ..) k (r.mono (Frz.put_sub _ h1)))
    refine ⟨_, _, .put _ h1 h2, D _ (Frz.put_sub _ h1) (fun b o q => ?_) (fun b q => Frz.put_ne f _ (by simpa using q)) ok', ok'⟩
    by_cases hb : b = a
    · subst hb; rw [Frz.put_self] at q; cases q; exact g
    · rw [Frz.put_ne f _ hb] at q; exact I.frz b o q
  | nest g k r g' k' r' =>
    rename_i a b ws us n m done last
    obtain ⟨h1, h2, h3, h4⟩ := hF a (by simp)
    obtain ⟨h1', h2', h3', h4'⟩ := hF b (by simp)
    have hab : a ≠ b := by simpa using hN
    have q1 : (f.put b (seqObj "list" us m)) a = none := by rw [Frz.put_ne f _ hab]; exact h1
    have s1 := Frz.put_sub (f := f) (a := b) (seqObj "list" us m) h1'
    have s2 := Frz.put_sub (f := f.put b (seqObj "list" us m)) (a := a) (seqObj "list" (ws.push (.ref b)) n) q1
    have ok' : SlotOk ((f.put b (seqObj "list" us m)).put a (seqObj "list" (ws.push (.ref b)) n)) h X (.ref a) [] (.fro (.list (done ++ [.list last]))) := by
      refine .fro (.list (Frz.put_self ..) (by simp; (first | lia | omega)) ?_)
      rw [Array.toList_push]
      refine ((r.mono s1).mono s2).append (.cons ?_ .nil)
      exact .list (s2 _ _ (Frz.put_self ..)) k' ((r'.mono s1).mono s2)
    refine ⟨_, _, (Grow.put _ h1' h2').trans (.put _ q1 h2), D _ (fun _ _ e => s2 _ _ (s1 _ _ e)) (fun c o q => ?_) (fun c q => ?_) ok', ok'⟩
    · by_cases hc : c = a
      · subst hc; rw [Frz.put_self] at q; cases q; exact g
      · rw [Frz.put_ne _ _ hc] at q
        by_cases hc' : c = b
        · subst hc'; rw [Frz.put_self] at q; cases q; exact g'
        · rw [Frz.put_ne f _ hc'] at q; exact I.frz c o q
    · have : c ≠ a ∧ c ≠ b := by simpa using q
      rw [Frz.put_ne _ _ this.1, Frz.put_ne _ _ this.2]
end
end Mini
end
section
set_option autoImplicit false
set_option linter.unusedVariables false
set_option linter.unusedSimpArgs false
namespace Mini
set_option tactic.hygienic false
open PySem PySem.Calls PyProof.Rows
structure AOk (n : Nat) (A : Around) : Prop where
  hd : A.handled = none
  dep : A.depth + n < recursionLimit
  un : A.units + 10 * n + 100 < cLine
theorem AOk.in1 {n : Nat} {A : Around} (h : AOk (n + 1) A) : AOk n A.in1 :=
  ⟨h.hd, by have := h.dep; simp only [Around.in1_depth]; (first | lia | omega), by have := h.un; simp only [Around.in1_units]; (first | lia | omega)⟩
theorem AOk.le {n m : Nat} {A : Around} (h : AOk n A) (k : m ≤ n) : AOk m A := ⟨h.hd, by have := h.dep; (first | lia | omega), by have := h.un; (first | lia | omega)⟩
theorem AOk.deeper {n : Nat} {A : Around} (h : AOk (n + 1) A) (env : Env) : AOk n (A.deeper env) :=
  ⟨h.hd, by have := h.dep; show A.depth + 1 + n < _; (first | lia | omega), by have := h.un; show A.units + 3 + 10 * n + 100 < _; (first | lia | omega)⟩
structure COk (n : Nat) (A : Around) : Prop where
  hd : A.handled = none
  dep : A.depth + n < recursionLimit
  un : A.units + 10 * n + 95 < cLine
theorem AOk.call {n : Nat} {A : Around} (h : AOk n A) : COk n A := ⟨h.hd, h.dep, by have := h.un; (first | lia | omega)⟩
theorem AOk.call2 {n : Nat} {A : Around} (h : AOk n A) : COk n A.in1.in1 := ⟨h.hd, by have := h.dep; simp only [Around.in1_depth]; (first | lia | omega), by have := h.un; simp only [Around.in1_units]; (first | lia | omega)⟩
theorem COk.deeper {n : Nat} {A : Around} (h : COk (n + 1) A) (env : Env) : AOk n (A.deeper env) :=
  ⟨h.hd, by have := h.dep; show A.depth + 1 + n < _; (first | lia | omega), by have := h.un; show A.units + 3 + 10 * n + 100 < _; (first | lia | omega)⟩
section
variable (k : Nat) (X : Fx)
noncomputable def ValOk (e : Expr) (g : St → Option (Slot × St)) : Prop :=
  ∀ (A : Around) (P f : Frz) (st : St) (vs : Nat → Value) (as : Nat → List Addr) (s : Shared) (sl : Slot) (st' : St), AOk k A → Inv X P f st vs as s.heap → g st = some (sl, st') →
    ∀ (E : Value → Shared → Prop) (Q : Value → Shared → Prop),
      (∀ v f' as' ar s', Grow P f f' → Inv X P f' st' vs as' s'.heap → Res X P f' as' s'.heap v sl ar → Same s s' → Q v s') → wpAny (model X.prog X.w) A (eval e X.env) Q E s
noncomputable def FOk (e : Expr) (g : St → Option (D × St)) : Prop :=
  ∀ (A : Around) (P f : Frz) (st : St) (vs : Nat → Value) (as : Nat → List Addr) (s : Shared) (d : D) (st' : St), AOk k A → Inv X P f st vs as s.heap → g st = some (d, st') →
    ∀ (E : Value → Shared → Prop) (Q : Value → Shared → Prop),
      (∀ v f' as' s', Grow P f f' → Inv X P f' st' vs as' s'.heap → Rep f' v d → Same s s' → Q v s') → wpAny (model X.prog X.w) A (eval e X.env) Q E s
noncomputable def TstOk (e : Expr) (g : St → Option (Bool × St)) : Prop :=
  ∀ (A : Around) (P f : Frz) (st : St) (vs : Nat → Value) (as : Nat → List Addr) (s : Shared) (b : Bool) (st' : St), AOk k A → Inv X P f st vs as s.heap → g st = some (b, st') →
    ∀ (E : Value → Shared → Prop) (Q : Bool → Shared → Prop),
      (∀ f' as' s', Grow P f f' → Inv X P f' st' vs as' s'.heap → Same s s' → Q b s') → wpAny (model X.prog X.w) A (isTrue e X.env (eval e X.env)) Q E s
noncomputable def BorOk (e : Expr) (g : St → Option (Slot × St)) : Prop :=
  ∀ (A : Around) (P f : Frz) (st : St) (vs : Nat → Value) (as : Nat → List Addr) (s : Shared) (sl : Slot) (st' : St), AOk k A → Inv X P f st vs as s.heap → g st = some (sl, st') →
    ∀ (E : Value → Shared → Prop) (Q : Value → Shared → Prop),
      (∀ v f' as' ax s', Grow P f f' → Inv X P f' st' vs as' s'.heap → SlotOk f' s'.heap X v ax sl → Same s s' → Q v s') → wpAny (model X.prog X.w) A (eval e X.env) Q E s
structure ROk (e : Expr) (r : R) : Prop where
  val : ValOk k X e r.val
  tst : TstOk k X e r.tst
  bor : BorOk k X e r.bor
end
section
variable {k : Nat} {X : Fx} {e : Expr}
theorem bind_some {α β : Type} {x : Option α} {f : α → Option β} {b : β} (h : (x >>= f) = some b) : ∃ a, x = some a ∧ f a = some b := by
  cases x with
  | none => cases h
  | some a => exact ⟨a, rfl, h⟩
theorem bind_el {α β : Type} {P : Prop} {x : Option α} {f : α → Option β} {b : β} (h : (x >>= f) = some b) (k : ∀ a, x = some a → f a = some b → P) : P := by
  cases x with
  | none => cases h
  | some a => exact k a rfl h
theorem bind_el2 {α α' β : Type} {P : Prop} {x : Option (α × α')} {f : α × α' → Option β} {b : β} (h : (x >>= f) = some b) (k : ∀ a a', x = some (a, a') → f (a, a') = some b → P) : P := by
  cases x with
  | none => cases h
  | some a => exact k a.1 a.2 rfl h
theorem bind_er {α β : Type} {P : Prop} {x : Option α} {f : α → Option β} {b : β} (k : ∀ a, x = some a → f a = some b → P) (h : (x >>= f) = some b) : P := bind_el h k
theorem bind_er2 {α α' β : Type} {P : Prop} {x : Option (α × α')} {f : α × α' → Option β} {b : β} (k : ∀ a a', x = some (a, a') → f (a, a') = some b → P) (h : (x >>= f) = some b) : P := bind_el2 h k
theorem bind_r2 {α1 α2 β : Type} {P : Prop} {x1 : Option α1} {x2 : α1 → Option α2} {f : α1 → α2 → Option β} {b : β} (k : ∀ a1, x1 = some a1 → ∀ a2, (x2 a1) = some a2 → f a1 a2 = some b → P) (h : (x1 >>= fun a1 => ((x2 a1) >>= fun a2 => f a1 a2)) = some b) : P := by
  refine bind_el h fun a1 e1 h => ?_
  refine bind_el h fun a2 e2 h => ?_
  exact k a1 e1 a2 e2 h
theorem bind_r3 {α1 α2 α3 β : Type} {P : Prop} {x1 : Option α1} {x2 : α1 → Option α2} {x3 : α1 → α2 → Option α3} {f : α1 → α2 → α3 → Option β} {b : β} (k : ∀ a1, x1 = some a1 → ∀ a2, (x2 a1) = some a2 → ∀ a3, (x3 a1 a2) = some a3 → f a1 a2 a3 = some b → P) (h : (x1 >>= fun a1 => ((x2 a1) >>= fun a2 => ((x3 a1 a2) >>= fun a3 => f a1 a2 a3))) = some b) : P := by
  refine bind_el h fun a1 e1 h => ?_
  refine bind_el h fun a2 e2 h => ?_
  refine bind_el h fun a3 e3 h => ?_
  exact k a1 e1 a2 e2 a3 e3 h
theorem bind_r4 {α1 α2 α3 α4 β : Type} {P : Prop} {x1 : Option α1} {x2 : α1 → Option α2} {x3 : α1 → α2 → Option α3} {x4 : α1 → α2 → α3 → Option α4} {f : α1 → α2 → α3 → α4 → Option β} {b : β} (k : ∀ a1, x1 = some a1 → ∀ a2, (x2 a1) = some a2 → ∀ a3, (x3 a1 a2) = some a3 → ∀ a4, (x4 a1 a2 a3) = some a4 → f a1 a2 a3 a4 = some b → P) (h : (x1 >>= fun a1 => ((x2 a1) >>= fun a2 => ((x3 a1 a2) >>= fun a3 => ((x4 a1 a2 a3) >>= fun a4 => f a1 a2 a3 a4)))) = some b) : P := by
  refine bind_el h fun a1 e1 h => ?_
  refine bind_el h fun a2 e2 h => ?_
  refine bind_el h fun a3 e3 h => ?_
  refine bind_el h fun a4 e4 h => ?_
  exact k a1 e1 a2 e2 a3 e3 a4 e4 h
theorem bind_r5 {α1 α2 α3 α4 α5 β : Type} {P : Prop} {x1 : Option α1} {x2 : α1 → Option α2} {x3 : α1 → α2 → Option α3} {x4 : α1 → α2 → α3 → Option α4} {x5 : α1 → α2 → α3 → α4 → Option α5} {f : α1 → α2 → α3 → α4 → α5 → Option β} {b : β} (k : ∀ a1, x1 = some a1 → ∀ a2, (x2 a1) = some a2 → ∀ a3, (x3 a1 a2) = some a3 → ∀ a4, (x4 a1 a2 a3) = some a4 → ∀ a5, (x5 a1 a2 a3 a4) = some a5 → f a1 a2 a3 a4 a5 = some b → P) (h : (x1 >>= fun a1 => ((x2 a1) >>= fun a2 => ((x3 a1 a2) >>= fun a3 => ((x4 a1 a2 a3) >>= fun a4 => ((x5 a1 a2 a3 a4) >>= fun a5 => f a1 a2 a3 a4 a5))))) = some b) : P := by
  refine bind_el h fun a1 e1 h => ?_
  refine bind_el h fun a2 e2 h => ?_
  refine bind_el h fun a3 e3 h => ?_
  refine bind_el h fun a4 e4 h => ?_
  refine bind_el h fun a5 e5 h => ?_
  exact k a1 e1 a2 e2 a3 e3 a4 e4 a5 e5 h
theorem bind_r6 {α1 α2 α3 α4 α5 α6 β : Type} {P : Prop} {x1 : Option α1} {x2 : α1 → Option α2} {x3 : α1 → α2 → Option α3} {x4 : α1 → α2 → α3 → Option α4} {x5 : α1 → α2 → α3 → α4 → Option α5} {x6 : α1 → α2 → α3 → α4 → α5 → Option α6} {f : α1 → α2 → α3 → α4 → α5 → α6 → Option β} {b : β} (k : ∀ a1, x1 = some a1 → ∀ a2, (x2 a1) = some a2 → ∀ a3, (x3 a1 a2) = some a3 → ∀ a4, (x4 a1 a2 a3) = some a4 → ∀ a5, (x5 a1 a2 a3 a4) = some a5 → ∀ a6, (x6 a1 a2 a3 a4 a5) = some a6 → f a1 a2 a3 a4 a5 a6 = some b → P) (h : (x1 >>= fun a1 => ((x2 a1) >>= fun a2 => ((x3 a1 a2) >>= fun a3 => ((x4 a1 a2 a3) >>= fun a4 => ((x5 a1 a2 a3 a4) >>= fun a5 => ((x6 a1 a2 a3 a4 a5) >>= fun a6 => f a1 a2 a3 a4 a5 a6)))))) = some b) : P := by
  refine bind_el h fun a1 e1 h => ?_
  refine bind_el h fun a2 e2 h => ?_
  refine bind_el h fun a3 e3 h => ?_
  refine bind_el h fun a4 e4 h => ?_
  refine bind_el h fun a5 e5 h => ?_
  refine bind_el h fun a6 e6 h => ?_
  exact k a1 e1 a2 e2 a3 e3 a4 e4 a5 e5 a6 e6 h
theorem bind_r7 {α1 α2 α3 α4 α5 α6 α7 β : Type} {P : Prop} {x1 : Option α1} {x2 : α1 → Option α2} {x3 : α1 → α2 → Option α3} {x4 : α1 → α2 → α3 → Option α4} {x5 : α1 → α2 → α3 → α4 → Option α5} {x6 : α1 → α2 → α3 → α4 → α5 → Option α6} {x7 : α1 → α2 → α3 → α4 → α5 → α6 → Option α7} {f : α1 → α2 → α3 → α4 → α5 → α6 → α7 → Option β} {b : β} (k : ∀ a1, x1 = some a1 → ∀ a2, (x2 a1) = some a2 → ∀ a3, (x3 a1 a2) = some a3 → ∀ a4, (x4 a1 a2 a3) = some a4 → ∀ a5, (x5 a1 a2 a3 a4) = some a5 → ∀ a6, (x6 a1 a2 a3 a4 a5) = some a6 → ∀ a7, (x7 a1 a2 a3 a4 a5 a6) = some a7 → f a1 a2 a3 a4 a5 a6 a7 = some b → P) (h : (x1 >>= fun a1 => ((x2 a1) >>= fun a2 => ((x3 a1 a2) >>= fun a3 => ((x4 a1 a2 a3) >>= fun a4 => ((x5 a1 a2 a3 a4) >>= fun a5 => ((x6 a1 a2 a3 a4 a5) >>= fun a6 => ((x7 a1 a2 a3 a4 a5 a6) >>= fun a7 => f a1 a2 a3 a4 a5 a6 a7))))))) = some b) : P := by
  refine bind_el h fun a1 e1 h => ?_
  refine bind_el h fun a2 e2 h => ?_
  refine bind_el h fun a3 e3 h => ?_
  refine bind_el h fun a4 e4 h => ?_
  refine bind_el h fun a5 e5 h => ?_
  refine bind_el h fun a6 e6 h => ?_
  refine bind_el h fun a7 e7 h => ?_
  exact k a1 e1 a2 e2 a3 e3 a4 e4 a5 e5 a6 e6 a7 e7 h
noncomputable def RepIs (f : Frz) (v : Value) : D → Prop
  | .none => v = .none
  | .bool b => v = .bool b
  | .int i => ∀ P : Prop, (∀ t, v = .int i t → P) → P
  | .list l => ∀ P : Prop, (∀ (a : Addr) (ws : Array Value) (n : Nat), v = .ref a → f a = some (seqObj "list" ws n) → l.length ≤ lim → RepL f ws.toList l → P) → P
  | .tup l => ∀ P : Prop, (∀ (a : Addr) (ws : Array Value) (n : Nat), v = .ref a → f a = some (seqObj "tuple" ws n) → l.length ≤ lim → RepL f ws.toList l → P) → P
theorem Rep.is {f : Frz} {v : Value} {d : D} (r : Rep f v d) : RepIs f v d := by
  cases r with
  | none => exact rfl
  | bool b => exact rfl
  | int i t => exact fun P k => k t rfl
  | list e k r => exact fun P q => q _ _ _ rfl e k r
  | tup e k r => exact fun P q => q _ _ _ rfl e k r
theorem Rep.intE {f : Frz} {v : Value} {i : Int} {Z : Value → Prop} (r : Rep f v (.int i)) (k : ∀ t, Z (.int i t)) : Z v := r.is _ fun t e => e ▸ k t
noncomputable def SlotIs (f : Frz) (h : Heap) (X : Fx) (v : Value) (ar : List Addr) : Slot → Prop
  | .unset => ∀ a ∈ ar, ∃ o, h.get? a = some o
  | .fro d => ar = [] ∧ Rep f v d
  | .own l => ∀ P : Prop, (∀ (a : Addr) (ws : Array Value) (n : Nat), v = .ref a → ar = [a] → h.get? a = some (seqObj "list" ws n) → l.length ≤ lim → RepL f ws.toList l → P) → P
  | .nest done last => ∀ P : Prop, (∀ (a b : Addr) (ws us : Array Value) (n m : Nat), v = .ref a → ar = [a, b] → h.get? a = some (seqObj "list" (ws.push (.ref b)) n) → done.length < lim → RepL f ws.toList done →
      h.get? b = some (seqObj "list" us m) → last.length ≤ lim → RepL f us.toList last → P) → P
  | .dct ks => ∀ P : Prop, (∀ a kvs, v = .ref a → ar = [a] → h.DictOf (intKind X.prog X.w) a kvs → kvs.length ≤ lim → (a == sysModules) = false → ks = kvs.map (·.1) → P) → P
  | .deck => ∀ P : Prop, (∀ a, v = .ref a → ar = [] → X.dk = some a → P) → P
theorem SlotOk.is {f : Frz} {h : Heap} {X : Fx} {v : Value} {ar : List Addr} {s : Slot} (x : SlotOk f h X v ar s) : SlotIs f h X v ar s := by
  cases x with
  | unset e => exact e
  | fro r => exact ⟨rfl, r⟩
  | own g k r => exact fun P q => q _ _ _ rfl rfl g k r
  | nest g k r g' k' r' => exact fun P q => q _ _ _ _ _ _ rfl rfl g k r g' k' r'
  | dct e k k' => exact fun P q => q _ _ rfl rfl e k k' rfl
  | deck e => exact fun P q => q _ rfl rfl e
theorem ite_er {α : Type} {p : Prop} [Decidable p] {x : Option α} {a : α} {P : Prop} (k : p → x = some a → P) (h : (if p then x else none) = some a) : P := by
  by_cases q : p
  · rw [if_pos q] at h; exact k q h
  · rw [if_neg q] at h; exact no_el h
theorem any_some {α : Type} {o : Option α} {f : α → Bool} (h : o.any f = true) : ∃ a, o = some a ∧ f a = true := by
  cases o with
  | none => exact nomatch h
  | some a => exact ⟨a, rfl, h⟩
theorem nameP_some {e : Expr} {q : Str × Pos} (h : nameP e = some q) : e = .Name q.1 q.2 := get_some (k := 0) h
theorem nameOf_some {e : Expr} {x : Str} (h : nameOf e = some x) : ∃ p, e = .Name x p := by
  obtain ⟨q, e1, e2⟩ := Option.map_eq_some_iff.mp h
  exact ⟨q.2, e2 ▸ nameP_some e1⟩
theorem constOf_some {e : Expr} {k : Const} (h : constOf e = some k) : ∃ q p, e = .Constant k q p :=
  let ⟨x, h1, h2⟩ := get_map (k := 3) h
  ⟨x.2.1, x.2.2, h2 ▸ h1⟩
theorem unOf_some {e : Expr} {q : UnaryOp × Expr} (h : unOf e = some q) : ∃ p, e = .UnaryOp q.1 q.2 p :=
  let ⟨x, h1, h2⟩ := get_map (k := 4) h
  ⟨x.2.2, h2 ▸ h1⟩
theorem listOf_some {e : Expr} {es : List Expr} (h : listOf e = some es) : ∃ p, e = .List es p :=
  let ⟨x, h1, h2⟩ := get_map (k := 1) h
  ⟨x.2, h2 ▸ h1⟩
theorem tupOf_some {e : Expr} {es : List Expr} (h : tupOf e = some es) : ∃ q p, e = .Tuple es q p :=
  let ⟨x, h1, h2⟩ := get_map (k := 2) h
  ⟨x.2.1, x.2.2, h2 ▸ h1⟩
theorem one_some {α : Type} : ∀ {l : List α} {x : α}, one l = some x → l = [x]
  | [y], x, h => congrArg (fun z => [z]) (Option.some.inj h)
theorem isIntC_some {i : Int} {k : Const} (h : isIntC i k = true) : k = .int i := by
  cases k with
  | int j => exact congrArg Const.int (of_decide_eq_true h)
  | _ => exact nomatch h
theorem constI {i : Int} {e : Expr} (h : (constOf e).any (isIntC i) = true) : ∃ q p, e = .Constant (.int i) q p := by
  obtain ⟨k, h1, h2⟩ := any_some h
  exact isIntC_some h2 ▸ constOf_some h1
theorem minus1 {e : Expr} (h : isMinus1 e = true) : ∃ q p1 p2, e = .UnaryOp .USub (.Constant (.int 1) q p1) p2 := by
  obtain ⟨⟨o, x⟩, h1, h2⟩ := any_some h
  obtain ⟨h3, h4⟩ := Bool.and_eq_true_iff.mp h2
  obtain ⟨p, h5⟩ := unOf_some h1
  obtain ⟨q, p1, h6⟩ := constI h4
  have h6 : x = _ := h6
  have h7 : o = .USub := by
    cases o with
    | USub => rfl
    | _ => exact nomatch h3
  exact ⟨q, p1, p, by rw [h5]; show Expr.UnaryOp o x p = _; rw [h6, h7]⟩
theorem zero1 {l : List Expr} (h : isZero l = true) : ∃ q p, l = [.Constant (.int 0) q p] := by
  obtain ⟨e, h1, h2⟩ := any_some h
  obtain ⟨q, p, h3⟩ := constI h2
  exact ⟨q, p, h3 ▸ one_some h1⟩
theorem none1 {e : Expr} (h : isNone' e = true) : ∃ q p, e = .Constant .none q p := by
  obtain ⟨k, h1, h2⟩ := any_some h
  have h3 : k = .none := by
    cases k with
    | none => rfl
    | _ => exact nomatch h2
  exact h3 ▸ constOf_some h1
theorem frzR_some {r : Option (Slot × St)} {d : D} {st : St} (h : frzR r = some (d, st)) : ∃ s, r = some (s, st) ∧ s.frz = some d := by
  unfold frzR at h
  revert h; refine bind_er2 fun s st1 e1 h => ?_
  revert h; refine bind_er fun d' e2 h => ?_
  cases h
  exact ⟨s, e1, e2⟩
theorem ValOk.F {g : St → Option (Slot × St)} (h : ValOk k X e g) : FOk k X e (fun st => frzR (g st)) := by
  intro A P f st vs as s d st' hA I hg E Q hQ
  obtain ⟨sl, e1, e2⟩ := frzR_some hg
  refine h A P f st vs as s sl st' hA I e1 E Q fun v f' as' ar s' G I' R S => ?_
  obtain ⟨f'', G', I'', r⟩ := R.freeze I' e2
  exact hQ v f'' as' s' (G.trans G') I'' r S
theorem ROk.F {r : R} (h : ROk k X e r) : FOk k X e r.F := h.val.F
theorem ValOk.tst {g : St → Option (Slot × St)} (h : ValOk k X e g)
    (he : ∀ whole, isTrue e X.env whole = (do let v ← whole; standAt e.pos; holding [v] (truthy v))) : TstOk k X e (tstOf g) := by
  intro A P f st vs as s b st' hA I hg E Q hQ
  unfold tstOf at hg
  revert hg; refine bind_er2 fun d st1 e1 hg => ?_
  refine wpAny_isTrue_value (h.F A P f st vs as s d st1 hA I e1 E _ fun v f' as' s' G I' r S => ?_) (he _)
  cases d with
  | bool c => cases hg; cases r; exact wpAny_truthy_bool (hQ f' as' s' G I' S)
  | _ => cases hg
theorem ValOk.bor {g : St → Option (Slot × St)} (h : ValOk k X e g) : BorOk k X e (borOf g) := by
  intro A P f st vs as s sl st' hA I hg E Q hQ
  unfold borOf at hg
  revert hg; refine bind_er2 fun d st1 e1 hg => ?_
  cases hg
  exact h.F A P f st vs as s d st' hA I e1 E Q fun v f' as' s' G I' r S => hQ v f' as' [] s' G I' (.fro r) S
noncomputable def plainT (e : Expr) : Bool := !((e.ctorIdx == 0 || (e.ctorIdx == 5 || e.ctorIdx == 15)) || (unOf e).any fun p => p.1.ctorIdx == UnaryOp.Not.ctorIdx)
theorem isTrue_plainT {env : Env} : ∀ {e : Expr}, plainT e = true → ∀ whole, isTrue e env whole = (do let v ← whole; standAt e.pos; holding [v] (truthy v)) := by
  intro e h whole
  cases e with
  | UnaryOp op x p => cases op <;> first | rfl | cases h
  | BoolOp => cases h
  | IfExp => cases h
  | Compare => cases h
  | _ => rfl
theorem ROk.of {g : St → Option (Slot × St)} (h : ValOk k X e g) (hp : plainT e = true) : ROk k X e (R.of g) :=
  ⟨h, h.tst (isTrue_plainT hp), h.bor⟩
theorem Res.fro {P f : Frz} {as : Nat → List Addr} {h : Heap} {v : Value} {d : D} (r : Rep f v d) : Res X P f as h v (.fro d) [] :=
  ⟨.fro r, fun a q => (nomatch q), List.nodup_nil⟩
theorem Inv.toks {P f : Frz} {st : St} {vs : Nat → Value} {as : Nat → List Addr} {h : Heap} (I : Inv X P f st vs as h) : Inv X P f st vs as h := I
theorem val_none {q : Nat} {pos : Pos} : ValOk k X (.Constant .none q pos) fun st => some (.fro .none, st) := by
  intro A P f st vs as s sl st' hA I hg E Q hQ
  cases hg
  exact wpAny_Constant_none (hQ _ f as [] s (.refl ..) I (.fro .none) (.refl s))
theorem val_bool {b : Bool} {q : Nat} {pos : Pos} : ValOk k X (.Constant (.bool b) q pos) fun st => some (.fro (.bool b), st) := by
  intro A P f st vs as s sl st' hA I hg E Q hQ
  cases hg
  exact wpAny_Constant_bool (hQ _ f as [] s (.refl ..) I (.fro (.bool b)) (.refl s))
theorem val_int {i : Int} {q : Nat} {pos : Pos} : ValOk k X (.Constant (.int i) q pos) fun st => some (.fro (.int i), st) := by
  intro A P f st vs as s sl st' hA I hg E Q hQ
  cases hg
  exact wpAny_Constant_int (hQ _ f as [] _ (.refl ..) I (.fro (.int i _)) (.mk' s s.heap _))
structure FxOk (X : Fx) : Prop where
  kind : X.env.scope.kind = .function
  nodup : ∀ (i j : Nat) (x : Str), X.names[i]? = some (some x) → X.names[j]? = some (some x) → i = j
theorem wp_name {A : Around} {E : Value → Shared → Prop} {Q : Value → Shared → Prop} {s : Shared} {x : Str} {pos : Pos} {v : Value} {f : Frz} {m : Str → Option Value} (hX : FxOk X) (hd : (x == ("__debug__" : Str)) = false)
    (hf : ∀ a o, f a = some o → s.heap.get? a = some o) (hn : s.heap.Ns X.env.locals m) (b : Binds X.env f m x v) (h : Q v s) : wpAny (model X.prog X.w) A (eval (.Name x pos) X.env) Q E s := by
  refine wpAny_Name ?_ hd
  rcases b with ⟨k1, k2⟩ | ⟨k1, c, o, e1, e2, e3⟩
  · exact wpAny_loadName_local hX.kind k1 hn k2 h
  · have hc : s.heap.IsCell c (some v) := ⟨o, hf c o e2, e3⟩
    rcases k1 with k1 | ⟨k1, k2⟩
    · exact wpAny_loadName_cell hX.kind k1 e1 hc h
    · exact wpAny_loadName_free hX.kind k1 e1 hc h k2
theorem wp_var {A : Around} {E : Value → Shared → Prop} {Q : Value → Shared → Prop} {s : Shared} {i : Nat} {x : Str} {pos : Pos} {P f : Frz} {st : St} {vs : Nat → Value} {as : Nat → List Addr} {sl : Slot} (hX : FxOk X) (hd : (x == ("__debug__" : Str)) = false)
    (I : Inv X P f st vs as s.heap) (hi : X.names[i]? = some (some x)) (hs : st.v[i]? = some sl) (hu : sl ≠ .unset) (h : Q (vs i) s) : wpAny (model X.prog X.w) A (eval (.Name x pos) X.env) Q E s := by
  obtain ⟨m, n, b⟩ := I.ns
  exact wp_name hX hd I.frz n (b i sl x hs hi hu) h
theorem val_var {i : Nat} {x : Str} {pos : Pos} (hX : FxOk X) (hd : (x == ("__debug__" : Str)) = false) (hi : X.names[i]? = some (some x)) : ValOk k X (.Name x pos) (varR i).val := by
  intro A P f st vs as s sl st' hA I hg E Q hQ
  unfold varR at hg
  dsimp only at hg
  cases e : st.v[i]? with
  | none => rw [e] at hg; cases hg
  | some s0 =>
    have hu : s0 ≠ .unset := fun q => by subst q; rw [e] at hg; cases hg
    have hdd : ∀ ks, s0 ≠ .dct ks := fun ks q => by subst q; rw [e] at hg; cases hg
    have hg' : some (s0.read, ({ st with v := st.v.set i s0.read } : St)) = some (sl, st') := by
      rw [e] at hg
      cases s0 <;> first | exact hg | exact absurd rfl hu | exact absurd rfl (hdd _)
    cases hg'
    obtain ⟨f', as', G, I', ok⟩ := I.readSlot e hu hdd
    exact wp_var hX hd I hi e hu (hQ _ f' as' [] s G I' ⟨ok, fun a q => (nomatch q), List.nodup_nil⟩ (.refl s))
theorem bor_var {i : Nat} {x : Str} {pos : Pos} (hX : FxOk X) (hd : (x == ("__debug__" : Str)) = false) (hi : X.names[i]? = some (some x)) (A : Around) (P f : Frz) (st : St) (vs : Nat → Value) (as : Nat → List Addr) (s : Shared) (sl : Slot)
    (I : Inv X P f st vs as s.heap) (hs : st.v[i]? = some sl) (hu : sl ≠ .unset) (E : Value → Shared → Prop) (Q : Value → Shared → Prop) (hQ : SlotOk f s.heap X (vs i) (as i) sl → Q (vs i) s) :
    wpAny (model X.prog X.w) A (eval (.Name x pos) X.env) Q E s := wp_var hX hd I hi hs hu (hQ (I.slot i sl hs))
end
end Mini
end
section
set_option hygiene false in
local macro_rules
  | `(tactic| cases $h:ident) => `(tactic| first | exact no_el $h | (revert hQ; apply ret_el $h; clear $h; intro hQ) | (refine pr_el $h fun h1_ h2_ => ?_; clear $h; subst h1_; subst h2_) | (refine on_el $h fun h1_ => ?_; clear $h; subst h1_) | cases ($h))
set_option hygiene false in
local macro_rules
  | `(tactic| obtain $p:rcasesPatMed := $e) => `(tactic| (refine byF fun hng_ => ?_; (rcases $e:term with $p:rcasesPatMed) <;> (refine hng_ ?_; clear hng_)))
set_option hygiene false in
local macro_rules
  | `(tactic| rewrite [$e:term]) => `(tactic| first | refine rwE $e ?_ | refine rwE ($e ..) ?_ | refine rwE (propext ($e ..)) ?_ | rewrite (occs := .all) [$e:term])
  | `(tactic| rewrite [← $e:term]) => `(tactic| first | refine rwE (Eq.symm $e) ?_ | refine rwE (Eq.symm ($e ..)) ?_ | rewrite (occs := .all) [← $e:term])
  | `(tactic| rewrite [$r:rwRule, $rs:rwRule,*]) => `(tactic| (rewrite [$r]; rewrite [$rs,*]))
section
set_option autoImplicit false
set_option linter.unusedVariables false
set_option linter.unusedSimpArgs false
namespace Mini
set_option tactic.hygienic false
open PySem PySem.Calls PyProof.Rows
section
variable {X : Fx} {P f : Frz} {st : St} {vs : Nat → Value} {as : Nat → List Addr} {h : Heap}
theorem SlotOk.there {f : Frz} {h : Heap} {X : Fx} {v : Value} {as : List Addr} {s : Slot} (x : SlotOk f h X v as s) : ∀ a ∈ as, ∃ o, h.get? a = some o := by
  cases x with
  | unset e => exact e
  | fro => intro a q; cases q
  | deck => intro a q; cases q
  | own e => intro a q; simp at q; subst q; exact ⟨_, e⟩
  | dct e => intro a q; simp at q; subst q; obtain ⟨o, _, _, e, _⟩ := e; exact ⟨_, e⟩
  | nest e k r e' => intro a q; simp at q; rcases q with rfl | rfl; exact ⟨_, e⟩; exact ⟨_, e'⟩
theorem Inv.asLt (I : Inv X P f st vs as h) {i : Nat} {a : Addr} (q : a ∈ as i) : ∃ o, h.get? a = some o := by
  rcases Nat.lt_or_ge i st.v.length with hi | hi
  · exact (I.slot i _ (List.getElem?_eq_getElem hi)).there a q
  · rw [I.out i hi] at q; cases q
theorem Inv.fresh (I : Inv X P f st vs as h) {a : Addr} (ha : h.objs.size ≤ a) : f a = none ∧ P a = none ∧ a ≠ X.env.locals ∧ X.dk ≠ some a ∧ ∀ i, a ∉ as i := by
  have no : ∀ o, h.get? a ≠ some o := fun o e => Nat.lt_irrefl _ (Nat.lt_of_lt_of_le (Heap.lt_size e) ha)
  refine ⟨?_, ?_, ?_, ?_, ?_⟩
  · cases e : f a with
    | none => rfl
    | some o => exact absurd (I.frz a o e) (no o)
  · cases e : P a with
    | none => rfl
    | some o => exact absurd (I.prs a o e) (no o)
  · rintro rfl
    obtain ⟨m, ⟨o, es, ep, e, _⟩, _⟩ := I.ns
    exact no _ e
  · intro e
    obtain ⟨ws, n, e, _⟩ := I.deck a e
    exact no _ e
  · intro i q
    obtain ⟨o, e⟩ := I.asLt q
    exact no _ e
theorem Inv.made (I : Inv X P f st vs as h) {h' : Heap} (k : ∀ a o, h.get? a = some o → h'.get? a = some o) {a : Addr} (ha : h.objs.size ≤ a) {ws : Array Value} {n : Nat} {l : List D}
    (e : h'.get? a = some (seqObj "list" ws n)) (hl : l.length ≤ lim) (r : RepL f ws.toList l) : Inv X P f st vs as h' ∧ Res X P f as h' (.ref a) (.own l) [a] := by
  refine ⟨I.ext k, .own e hl r, fun b q => ?_, by simp⟩
  simp at q; subst q
  exact I.fresh ha
end
mutual
noncomputable def D.py : D → PyData
  | .none => .none
  | .bool b => .bool b
  | .int i => .int i
  | .list l => .list (D.pys l)
  | .tup l => .tuple (D.pys l)
noncomputable def D.pys : List D → List PyData
  | [] => []
  | d :: ds => d.py :: D.pys ds
end
theorem Dpysq1 : D.pys [] = [] := rfl
theorem Dpysq2 (d : D) (ds : List D) : D.pys (d :: ds) = d.py :: D.pys ds := rfl
theorem Dpyq1 : D.none.py = PySem.PyData.none := rfl
theorem Dpyq2 (b : Bool) : (D.bool b).py = PySem.PyData.bool b := rfl
theorem Dpyq3 (i : Int) : (D.int i).py = PySem.PyData.int i := rfl
theorem Dpyq4 (l : List D) : (D.list l).py = PySem.PyData.list (D.pys l) := rfl
theorem Dpyq5 (l : List D) : (D.tup l).py = PySem.PyData.tuple (D.pys l) := rfl
theorem and_t {a b : Bool} (h : a = true) (k : b = true) : (a && b) = true := by rw [h, k]; rfl
theorem and_cg {a b c d : Bool} (h : a = c) (k : b = d) : (a && b) = (c && d) := by rw [h, k]
mutual
theorem py_canLay : ∀ d : D, d.py.canLay0 = true
  | .none => rfl
  | .bool _ => rfl
  | .int _ => rfl
  | .list l => pys_canLay l
  | .tup l => pys_canLay l
theorem pys_canLay : ∀ l : List D, PyData.canLayAll0 (D.pys l) = true
  | [] => rfl
  | d :: ds => and_t (py_canLay d) (pys_canLay ds)
end
mutual
theorem py_eqv : ∀ a b : D, PyData.eqv a.py b.py = D.eqv a b
  | .none, b => by cases b <;> rfl
  | .bool x, b => by cases b <;> rfl
  | .int x, b => by cases b <;> rfl
  | .list x, b => by
    cases b with
    | list y => exact pys_eqv x y
    | _ => rfl
  | .tup x, b => by
    cases b with
    | tup y => exact pys_eqv x y
    | _ => rfl
theorem pys_eqv : ∀ a b : List D, PyData.eqvAll (D.pys a) (D.pys b) = D.eqvs a b
  | [], b => by cases b <;> rfl
  | x :: xs, b => by
    cases b with
    | nil => rfl
    | cons y ys => exact and_cg (py_eqv x y) (pys_eqv xs ys)
end
theorem small_depth {d : D} (h : small d = true) : d.py.depth ≤ 1 := by
  cases d with
  | list l =>
    simp only [small] at h
    simp only [Dpyq1, Dpyq2, Dpyq3, Dpyq4, Dpyq5, PyData.depth]
    have : ∀ l : List D, l.all isInt = true → PyData.depthAll (D.pys l) = 0 := by
      intro l
      induction l with
      | nil => intro _; simp [Dpysq1, Dpysq2, PyData.depthAll]
      | cons d ds ih =>
        intro h
        simp only [List.all_cons, Bool.and_eq_true] at h
        cases d with
        | int i => simp [Dpysq1, Dpysq2, PyData.depthAll, Dpyq1, Dpyq2, Dpyq3, Dpyq4, Dpyq5, PyData.depth, ih h.2]
        | _ => cases h.1
    rw [this l h]; exact Nat.le_refl _
  | tup l => simp [small] at h
  | _ => simp [Dpyq1, Dpyq2, Dpyq3, Dpyq4, Dpyq5, PyData.depth]
mutual
theorem Rep.reads {f : Frz} {h : Heap} (hf : ∀ a o, f a = some o → h.get? a = some o) : ∀ {v : Value} {d : D}, Rep f v d → ∃ as, Reads h v d.py as
  | _, _, .none => ⟨_, .none⟩
  | _, _, .bool b => ⟨_, .bool b⟩
  | _, _, .int i t => ⟨_, .int i t⟩
  | _, _, .list e _ r => let ⟨as, q⟩ := RepL.reads hf r; ⟨_, .list (hf _ _ e) rfl rfl q⟩
  | _, _, .tup e _ r => let ⟨as, q⟩ := RepL.reads hf r; ⟨_, .tuple (hf _ _ e) rfl rfl q⟩
theorem RepL.reads {f : Frz} {h : Heap} (hf : ∀ a o, f a = some o → h.get? a = some o) : ∀ {vs : List Value} {ds : List D}, RepL f vs ds → ∃ as, ReadsAll h vs (D.pys ds) as
  | _, _, .nil => ⟨_, .nil⟩
  | _, _, .cons r rs => let ⟨as, q⟩ := Rep.reads hf r; let ⟨bs, q'⟩ := RepL.reads hf rs; ⟨_, .cons q q'⟩
end
section
variable (k : Nat) (X : Fx)
noncomputable def OpOk1 (t : Value → Sem Value) (op : D → Option Slot) : Prop :=
  ∀ (A : Around) (P f : Frz) (st : St) (vs : Nat → Value) (as : Nat → List Addr) (s : Shared) (d : D) (sl : Slot) (v : Value), AOk k A → Inv X P f st vs as s.heap → Rep f v d → op d = some sl →
    ∀ (E : Value → Shared → Prop) (Q : Value → Shared → Prop),
      (∀ v' f' ar s', Grow P f f' → Inv X P f' st vs as s'.heap → Res X P f' as s'.heap v' sl ar → Same s s' → Q v' s') → wpAny (model X.prog X.w) A (t v) Q E s
noncomputable def OpOk2 (t : Value → Value → Sem Value) (op : D → D → Option Slot) : Prop :=
  ∀ (A : Around) (P f : Frz) (st : St) (vs : Nat → Value) (as : Nat → List Addr) (s : Shared) (d e : D) (sl : Slot) (v u : Value), AOk k A → Inv X P f st vs as s.heap → Rep f v d → Rep f u e → op d e = some sl →
    ∀ (E : Value → Shared → Prop) (Q : Value → Shared → Prop),
      (∀ v' f' ar s', Grow P f f' → Inv X P f' st vs as s'.heap → Res X P f' as s'.heap v' sl ar → Same s s' → Q v' s') → wpAny (model X.prog X.w) A (t v u) Q E s
end
section
variable {k : Nat} {X : Fx}
theorem val_un {e x : Expr} {r : R} {t : Value → Sem Value} {op : D → Option Slot} (hx : ROk k X x r) (ho : OpOk1 k X t op)
    (he : ∀ (A : Around) (E : Value → Shared → Prop) (Q : Value → Shared → Prop) (s : Shared), wpAny (model X.prog X.w) A (eval x X.env) (fun v s₁ => wpAny (model X.prog X.w) A (t v) Q E s₁) E s → wpAny (model X.prog X.w) A (eval e X.env) Q E s) :
    ValOk k X e (un r op).val := by
  intro A P f st vs as s sl st' hA I hg E Q hQ
  unfold un R.of at hg
  revert hg; refine bind_er2 fun d st1 e1 hg => ?_
  revert hg; refine bind_er fun sl' e2 hg => ?_
  cases hg
  refine he A E Q s (hx.F A P f st vs as s d _ hA I e1 E _ fun v f1 as1 s1 G1 I1 r1 S1 => ?_)
  exact ho A P f1 _ vs as1 s1 d sl' v hA I1 r1 e2 E Q fun v' f2 ar s2 G2 I2 R2 S2 => hQ v' f2 as1 ar s2 (G1.trans G2) I2 R2 (S1.trans S2)
theorem val_bin {e x y : Expr} {r q : R} {t : Value → Value → Sem Value} {op : D → D → Option Slot} (hx : ROk k X x r) (hy : ROk k X y q) (ho : OpOk2 k X t op)
    (he : ∀ (A : Around) (E : Value → Shared → Prop) (Q : Value → Shared → Prop) (s : Shared),
      wpAny (model X.prog X.w) A (eval x X.env) (fun v s₁ => wpAny (model X.prog X.w) A (eval y X.env) (fun u s₂ => wpAny (model X.prog X.w) A (t v u) Q E s₂) E s₁) E s → wpAny (model X.prog X.w) A (eval e X.env) Q E s) :
    ValOk k X e (bin r q op).val := by
  intro A P f st vs as s sl st' hA I hg E Q hQ
  unfold bin R.of at hg
  revert hg; refine bind_er2 fun d st1 e1 hg => ?_
  revert hg; refine bind_er2 fun d2 st2 e2 hg => ?_
  revert hg; refine bind_er fun sl' e3 hg => ?_
  cases hg
  refine he A E Q s (hx.F A P f st vs as s d st1 hA I e1 E _ fun v f1 as1 s1 G1 I1 r1 S1 => ?_)
  refine hy.F A P f1 st1 vs as1 s1 d2 _ hA I1 e2 E _ fun u f2 as2 s2 G2 I2 r2 S2 => ?_
  exact ho A P f2 _ vs as2 s2 d d2 sl' v u hA I2 (r1.mono G2.sub) r2 e3 E Q fun v' f3 ar s3 G3 I3 R3 S3 => hQ v' f3 as2 ar s3 ((G1.trans G2).trans G3) I3 R3 ((S1.trans S2).trans S3)
theorem op_neg : OpOk1 k X (unaryOp .USub) negD := by
  intro A P f st vs as s d sl v hA I r e E Q hQ
  cases d with
  | int i => cases e; cases r; exact PySem.P.neg_int (hQ _ f [] _ (.refl ..) I (.fro (.int _ _)) (.mk' s s.heap _))
  | _ => cases e
theorem op_not : OpOk1 k X (unaryOp .Not) notD := by
  intro A P f st vs as s d sl v hA I r e E Q hQ
  cases d with
  | bool b => cases e; cases r; exact not_value (wpAny_truthy_bool (hQ _ f [] _ (.refl ..) I (.fro (.bool _)) (.refl s)))
  | _ => cases e
theorem Inv.push {P f : Frz} {st : St} {vs : Nat → Value} {as : Nat → List Addr} {h : Heap} (I : Inv X P f st vs as h) {ws : Array Value} {l : List D} (hl : l.length ≤ lim) (r : RepL f ws.toList l) :
    Inv X P f st vs as (h.push (seqObj "list" ws 0)) ∧ Res X P f as (h.push (seqObj "list" ws 0)) (.ref h.objs.size) (.own l) [h.objs.size] :=
  I.made (fun a o e => Heap.get?_push_of_some _ e) (Nat.le_refl _) (Heap.get?_push_size _ rfl) hl r
set_option tactic.hygienic true in
theorem op_add : OpOk2 k X (binaryOp .Add) addD := by
  intro A P f st vs as s d e sl v u hA I r q eq E Q hQ
  cases d with
  | int a =>
    cases e with
    | int b => cases eq; cases r; cases q; exact PySem.P.add_int (hQ _ f [] _ (.refl ..) I (.fro (.int _ _)) (.mk' s s.heap _))
    | _ => cases eq
  | list a =>
    cases e with
    | list b =>
      simp only [addD] at eq
      split at eq
      · rename_i hl
        cases eq
        cases r with
        | list e1 k1 r1 =>
          cases q with
          | list e2 k2 r2 =>
            have n1 := r1.length
            have n2 := r2.length
            simp only [Array.length_toList] at n1 n2
            have I' := I.push (ws := _ ++ _) (l := a ++ b) (by rw [List.length_append]; exact hl) (by rw [Array.toList_append]; exact r1.append r2)
            refine PySem.P.add_list (I.frz _ _ e1) (I.frz _ _ e2) (hQ _ f _ _ (.refl ..) I'.1 I'.2 ⟨rfl, rfl, rfl⟩) ?_
            rw [n1, n2, sizeLine_eq]; unfold lim at hl; (first | lia | omega)
      · cases eq
    | _ => cases eq
  | _ => cases eq
theorem op_sub : OpOk2 k X (binaryOp .Sub) subD := by
  intro A P f st vs as s d e sl v u hA I r q eq E Q hQ
  cases d with
  | int a =>
    cases e with
    | int b => cases eq; cases r; cases q; exact PySem.P.sub_int (hQ _ f [] _ (.refl ..) I (.fro (.int _ _)) (.mk' s s.heap _))
    | _ => cases eq
  | _ => cases eq
set_option tactic.hygienic true in
theorem op_mul : OpOk2 k X (binaryOp .Mult) mulD := by
  intro A P f st vs as s d e sl v u hA I r q eq E Q hQ
  cases d with
  | int a =>
    cases e with
    | int b =>
      simp only [mulD] at eq
      split at eq
      · rename_i hb
        cases eq; cases r; cases q
        exact PySem.P.mul_int (hQ _ f [] _ (.refl ..) I (.fro (.int _ _)) (.mk' s s.heap _)) (IntMulOk.of_right (intBits_le_64 (by (first | lia | omega)) (by (first | lia | omega))))
      · cases eq
    | _ => cases eq
  | _ => cases eq
set_option tactic.hygienic true in
theorem op_mod : OpOk2 k X (binaryOp .Mod) modD := by
  intro A P f st vs as s d e sl v u hA I r q eq E Q hQ
  cases d with
  | int a =>
    cases e with
    | int b =>
      simp only [modD] at eq
      split at eq
      · cases eq
      · rename_i hb
        cases eq; cases r; cases q
        exact mod_int' hb (hQ _ f [] _ (.refl ..) I (.fro (.int _ _)) (.mk' s s.heap _))
    | _ => cases eq
  | _ => cases eq
set_option tactic.hygienic true in
theorem op_eq : OpOk2 k X (compareOp .Eq) (cmpS .eq) := by
  intro A P f st vs as s d e sl v u hA I r q eq E Q hQ
  simp only [cmpS, cmpD] at eq
  split at eq
  · rename_i hs
    cases eq
    obtain ⟨a1, q1⟩ := r.reads I.frz
    obtain ⟨a2, q2⟩ := q.reads I.frz
    refine SeqAt.compareEq_reads q1 q2 (py_canLay d) (py_canLay e) ?_ ?_
    · have := hA.un
      have hm : min d.py.depth e.py.depth ≤ 1 := by
        rcases Bool.or_eq_true_iff.mp hs with h | h
        · exact Nat.le_trans (Nat.min_le_left _ _) (small_depth h)
        · exact Nat.le_trans (Nat.min_le_right _ _) (small_depth h)
      (first | lia | omega)
    · rw [py_eqv]
      exact hQ _ f [] _ (.refl ..) I (.fro (.bool _)) (.refl s)
  · cases eq
set_option tactic.hygienic true in
theorem op_ne : OpOk2 k X (compareOp .NotEq) (cmpS .ne) := by
  intro A P f st vs as s d e sl v u hA I r q eq E Q hQ
  simp only [cmpS, cmpD] at eq
  split at eq
  · rename_i hs
    cases eq
    obtain ⟨a1, q1⟩ := r.reads I.frz
    obtain ⟨a2, q2⟩ := q.reads I.frz
    refine SeqAt.compareNe_reads q1 q2 (py_canLay d) (py_canLay e) ?_ ?_
    · have := hA.un
      have hm : min d.py.depth e.py.depth ≤ 1 := by
        rcases Bool.or_eq_true_iff.mp hs with h | h
        · exact Nat.le_trans (Nat.min_le_left _ _) (small_depth h)
        · exact Nat.le_trans (Nat.min_le_right _ _) (small_depth h)
      (first | lia | omega)
    · rw [py_eqv]
      exact hQ _ f [] _ (.refl ..) I (.fro (.bool _)) (.refl s)
  · cases eq
theorem op_le : OpOk2 k X (compareOp .LtE) (cmpS .le) := by
  intro A P f st vs as s d e sl v u hA I r q eq E Q hQ
  cases d with
  | int a =>
    cases e with
    | int b => cases eq; cases r; cases q; exact PySem.P.le_int (hQ _ f [] _ (.refl ..) I (.fro (.bool _)) (.refl s))
    | _ => cases eq
  | _ => cases eq
theorem op_ge : OpOk2 k X (compareOp .GtE) (cmpS .ge) := by
  intro A P f st vs as s d e sl v u hA I r q eq E Q hQ
  cases d with
  | int a =>
    cases e with
    | int b => cases eq; cases r; cases q; exact PySem.P.ge_int (hQ _ f [] _ (.refl ..) I (.fro (.bool _)) (.refl s))
    | _ => cases eq
  | _ => cases eq
end
end Mini
end
section
set_option autoImplicit false
set_option linter.unusedVariables false
set_option linter.unusedSimpArgs false
namespace Mini
set_option tactic.hygienic false
open PySem PySem.Calls PyProof.Rows PySem.MeetsSeq PySem.MeetsSeq3
theorem ints_at : ∀ {vs : List Value} {ns : List Int} (i : Nat), IntsAre vs ns → i < ns.length → ∃ a t, vs[i]? = some (.int a t) ∧ ns[i]? = some a
  | _, _, i, .nil, h => by simp at h
  | _, _, 0, .cons n t r, h => ⟨n, t, rfl, rfl⟩
  | _, _, i + 1, .cons n t r, h => by
    simp only [List.length_cons, Nat.add_lt_add_iff_right] at h
    simpa using ints_at i r h
theorem ltI_cons (a b : Int) (x y : List Int) : ltI (a :: x) (b :: y) = if a == b then ltI x y else decide (a < b) := rfl
theorem drop_at {ns : List Int} {i : Nat} {a : Int} (h : ns[i]? = some a) : ns.drop i = a :: ns.drop (i + 1) := by
  have hi : i < ns.length := by
    rcases Nat.lt_or_ge i ns.length with q | q
    · exact q
    · rw [List.getElem?_eq_none q] at h; cases h
  rw [List.drop_eq_getElem_cons hi]
  rw [List.getElem?_eq_getElem hi] at h
  cases h; rfl
theorem beq_comm' (a b : Int) : (a == b) = (b == a) := by
  by_cases h : a = b
  · subst h; rfl
  · rw [beq_false_of_ne h, beq_false_of_ne (Ne.symm h)]
theorem lt_loop (l b : Addr) (items items2 : Array Value) (n n2 : Nat) (xs ys : List Int) (hx : IntsAre items.toList xs) (hy : IntsAre items2.toList ys) (k : Nat) :
    ∀ i : Nat, i ≤ xs.length → i ≤ ys.length → xs.length - i = k → Meets (Builtin.«list.__eq__.loop» ⟨[.ref l, .ref b, rawInt i, rawInt 0], []⟩)
      (fun A R s => s.heap.get? l = some (seqObj "list" items n) ∧ s.heap.get? b = some (seqObj "list" items2 n2) ∧
        R (.ok (.ret (.bool (ltI (xs.drop i) (ys.drop i))))) s) := by
  have l1 : items.size = xs.length := by simpa using hx.length
  have l2 : items2.size = ys.length := by simpa using hy.length
  induction k with
  | zero =>
    intro i h1 h2 hk prog w A R s h
    obtain ⟨hp, g, d, tk, os⟩ := s; obtain ⟨hl, hb, h⟩ := h
    wp_walk using wpAny_loadPart' hl, wpAny_loadPart' hb
    have hi1 : items[((i : Nat) : Int).toNat]? = none := by simp; (first | lia | omega)
    have hd : xs.drop i = [] := by simp; (first | lia | omega)
    rw [hd] at h
    rw [hi1]
    wp_walk using wpAny_loadPart' hl, wpAny_loadPart' hb
    have e : ltI [] (ys.drop i) = decide (items.size < items2.size) := by
      rcases Nat.lt_or_ge i ys.length with q | q
      · rw [List.drop_eq_getElem_cons q]
        simp only [ltIq1, ltIq2, ltIq3, ltIq4]
        have : items.size < items2.size := by (first | lia | omega)
        simp [this]
      · have e2 : ys.drop i = [] := by simp; (first | lia | omega)
        rw [e2]
        have : ¬ items.size < items2.size := by (first | lia | omega)
        simp [ltIq1, ltIq2, ltIq3, ltIq4, this]
    rw [e] at h
    exact h
  | succ k ih =>
    intro i h1 h2 hk prog w A R s h
    obtain ⟨hp, g, d, tk, os⟩ := s; obtain ⟨hl, hb, h⟩ := h
    wp_walk using wpAny_loadPart' hl, wpAny_loadPart' hb
    obtain ⟨x, t, e1, e1'⟩ := ints_at i hx (by (first | lia | omega))
    have hi1 : items[((i : Nat) : Int).toNat]? = some (.int x t) := by simpa using e1
    rcases Nat.lt_or_ge i ys.length with q | q
    · obtain ⟨y, u, e2, e2'⟩ := ints_at i hy q
      have hi2 : items2[((i : Nat) : Int).toNat]? = some (.int y u) := by simpa using e2
      rw [drop_at e1', drop_at e2', ltI_cons] at h
      have hc : ((i : Int) + 1) = ((i + 1 : Nat) : Int) := by push_cast; rfl
      rw [hi1, hi2]
      refine wpAny_bind (EqGives.int x y t u prog w _ _ _ _ ?_)
      cases hb' : (x == y) with
      | true =>
        rw [hb'] at h
        wp_walk
        rw [hc]
        exact ⟨plainId_quiet plain_eq_loop _, codeAny_builtin entry_eq_loop (by
          rw [Around.under_plainId plain_eq_loop _]
          exact ih (i + 1) (by (first | lia | omega)) (by (first | lia | omega)) (by (first | lia | omega)) prog w A R _ ⟨hl, hb, by simpa using h⟩)⟩
      | false =>
        rw [hb'] at h
        wp_walk using wpAny_loadPart' hl, wpAny_loadPart' hb
        rw [hi1, hi2]
        refine wpAny_bind (PySem.P.lt_int ?_)
        wp_walk
        simpa using h
    · have hi2 : items2[((i : Nat) : Int).toNat]? = none := by simp; (first | lia | omega)
      have hd : ys.drop i = [] := by simp; (first | lia | omega)
      rw [hd, drop_at e1'] at h
      rw [hi1, hi2]
      wp_walk using wpAny_loadPart' hl, wpAny_loadPart' hb
      have e : ltI (x :: xs.drop (i + 1)) [] = decide (items.size < items2.size) := by
        have : ¬ items.size < items2.size := by (first | lia | omega)
        simp [ltIq1, ltIq2, ltIq3, ltIq4, this]
      rw [e] at h
      exact h
theorem gt_loop (l b : Addr) (items items2 : Array Value) (n n2 : Nat) (xs ys : List Int) (hx : IntsAre items.toList xs) (hy : IntsAre items2.toList ys) (k : Nat) :
    ∀ i : Nat, i ≤ xs.length → i ≤ ys.length → xs.length - i = k → Meets (Builtin.«list.__eq__.loop» ⟨[.ref l, .ref b, rawInt i, rawInt 4], []⟩)
      (fun A R s => s.heap.get? l = some (seqObj "list" items n) ∧ s.heap.get? b = some (seqObj "list" items2 n2) ∧
        R (.ok (.ret (.bool (ltI (ys.drop i) (xs.drop i))))) s) := by
  have l1 : items.size = xs.length := by simpa using hx.length
  have l2 : items2.size = ys.length := by simpa using hy.length
  induction k with
  | zero =>
    intro i h1 h2 hk prog w A R s h
    obtain ⟨hp, g, d, tk, os⟩ := s; obtain ⟨hl, hb, h⟩ := h
    wp_walk using wpAny_loadPart' hl, wpAny_loadPart' hb
    have hi1 : items[((i : Nat) : Int).toNat]? = none := by simp; (first | lia | omega)
    have hd : xs.drop i = [] := by simp; (first | lia | omega)
    rw [hd] at h
    rw [hi1]
    wp_walk using wpAny_loadPart' hl, wpAny_loadPart' hb
    have e : ltI (ys.drop i) [] = decide (items.size > items2.size) := by
      have : ¬ items.size > items2.size := by (first | lia | omega)
      rcases Nat.lt_or_ge i ys.length with q | q
      · rw [List.drop_eq_getElem_cons q, ltIq3]
        simp [this]
      · have e2 : ys.drop i = [] := by simp; (first | lia | omega)
        rw [e2]
        simp [ltIq1, ltIq2, ltIq3, ltIq4, this]
    rw [e] at h
    exact h
  | succ k ih =>
    intro i h1 h2 hk prog w A R s h
    obtain ⟨hp, g, d, tk, os⟩ := s; obtain ⟨hl, hb, h⟩ := h
    wp_walk using wpAny_loadPart' hl, wpAny_loadPart' hb
    obtain ⟨x, t, e1, e1'⟩ := ints_at i hx (by (first | lia | omega))
    have hi1 : items[((i : Nat) : Int).toNat]? = some (.int x t) := by simpa using e1
    rcases Nat.lt_or_ge i ys.length with q | q
    · obtain ⟨y, u, e2, e2'⟩ := ints_at i hy q
      have hi2 : items2[((i : Nat) : Int).toNat]? = some (.int y u) := by simpa using e2
      rw [drop_at e1', drop_at e2', ltI_cons, beq_comm'] at h
      have hc : ((i : Int) + 1) = ((i + 1 : Nat) : Int) := by push_cast; rfl
      rw [hi1, hi2]
      refine wpAny_bind (EqGives.int x y t u prog w _ _ _ _ ?_)
      cases hb' : (x == y) with
      | true =>
        rw [hb'] at h
        wp_walk
        rw [hc]
        exact ⟨plainId_quiet plain_eq_loop _, codeAny_builtin entry_eq_loop (by
          rw [Around.under_plainId plain_eq_loop _]
          exact ih (i + 1) (by (first | lia | omega)) (by (first | lia | omega)) (by (first | lia | omega)) prog w A R _ ⟨hl, hb, by simpa using h⟩)⟩
      | false =>
        rw [hb'] at h
        wp_walk using wpAny_loadPart' hl, wpAny_loadPart' hb
        rw [hi1, hi2]
        refine wpAny_bind (PySem.P.gt_int ?_)
        wp_walk
        simpa using h
    · have hi2 : items2[((i : Nat) : Int).toNat]? = none := by simp; (first | lia | omega)
      have hd : ys.drop i = [] := by simp; (first | lia | omega)
      rw [hd, drop_at e1'] at h
      rw [hi1, hi2]
      wp_walk using wpAny_loadPart' hl, wpAny_loadPart' hb
      have e : ltI [] (x :: xs.drop (i + 1)) = decide (items.size > items2.size) := by
        have : items.size > items2.size := by (first | lia | omega)
        simp [ltIq1, ltIq2, ltIq3, ltIq4, this]
      rw [e] at h
      exact h
theorem list_lt (l b : Addr) (items items2 : Array Value) (n n2 : Nat) (xs ys : List Int) (hx : IntsAre items.toList xs) (hy : IntsAre items2.toList ys) :
    Meets (Builtin.«list.__lt__» ⟨[.ref l, .ref b], []⟩)
      (fun A R s => s.heap.get? l = some (seqObj "list" items n) ∧ s.heap.get? b = some (seqObj "list" items2 n2) ∧ R (.ok (.ret (.bool (ltI xs ys)))) s) := by
  intro prog w A R s h
  obtain ⟨hp, g, d, tk, os⟩ := s; obtain ⟨hl, hb, h⟩ := h
  have f3 := AutoSeq1.sub_list_list
  wp_walk using wpAny_loadPart' hl, wpAny_loadPart' hb
  exact ⟨plainId_quiet plain_eq_loop _, codeAny_builtin entry_eq_loop (by
    rw [Around.under_plainId plain_eq_loop _]
    exact lt_loop l b items items2 n n2 xs ys hx hy _ 0 (Nat.zero_le _) (Nat.zero_le _) rfl prog w A R _ ⟨hl, hb, by simpa using h⟩)⟩
theorem list_gt (l b : Addr) (items items2 : Array Value) (n n2 : Nat) (xs ys : List Int) (hx : IntsAre items.toList xs) (hy : IntsAre items2.toList ys) :
    Meets (Builtin.«list.__gt__» ⟨[.ref l, .ref b], []⟩)
      (fun A R s => s.heap.get? l = some (seqObj "list" items n) ∧ s.heap.get? b = some (seqObj "list" items2 n2) ∧ R (.ok (.ret (.bool (ltI ys xs)))) s) := by
  intro prog w A R s h
  obtain ⟨hp, g, d, tk, os⟩ := s; obtain ⟨hl, hb, h⟩ := h
  have f3 := AutoSeq1.sub_list_list
  wp_walk using wpAny_loadPart' hl, wpAny_loadPart' hb
  exact ⟨plainId_quiet plain_eq_loop _, codeAny_builtin entry_eq_loop (by
    rw [Around.under_plainId plain_eq_loop _]
    exact gt_loop l b items items2 n n2 xs ys hx hy _ 0 (Nat.zero_le _) (Nat.zero_le _) rfl prog w A R _ ⟨hl, hb, by simpa using h⟩)⟩
theorem intsOf_some {f : Frz} : ∀ {vs : List Value} {ds : List D} {xs : List Int}, RepL f vs ds → intsOf ds = some xs → IntsAre vs xs
  | _, _, _, .nil, h => by cases h; exact .nil
  | _, _, _, .cons (d := d) (ds := ds) r rs, h => by
    cases d with
    | int i =>
      rw [intsOfq2] at h
      revert h
      cases e : intsOf ds with
      | none => intro h; cases h
      | some l =>
        intro h
        cases h
        cases r
        exact .cons _ _ (intsOf_some rs e)
    | _ => cases h
section
variable {k : Nat} {X : Fx}
set_option tactic.hygienic true in
theorem op_lt : OpOk2 k X (compareOp .Lt) (cmpS .lt) := by
  intro A P f st vs as s d e sl v u hA I r q eq E Q hQ
  have hu : A.units < cLine := by have := hA.un; (first | lia | omega)
  cases d with
  | int a =>
    cases e with
    | int b => cases eq; cases r; cases q; exact PySem.P.lt_int (hQ _ f [] _ (.refl ..) I (.fro (.bool _)) (.refl s))
    | _ => cases eq
  | list a =>
    cases e with
    | list b =>
      simp only [cmpS, cmpD, plt] at eq
      split at eq
      · rename_i x y ex ey
        cases eq
        cases r with
        | list e1 k1 r1 =>
          cases q with
          | list e2 k2 r2 =>
            exact richCompare_meets_room (op := .Lt) ⟨_, I.frz _ _ e1, rfl⟩ ⟨_, I.frz _ _ e2, rfl⟩ F.slot_list_lt F.entry_list_lt (F.args_list_lt_2 _ _)
              (list_lt _ _ _ _ _ _ x y (intsOf_some r1 ex) (intsOf_some r2 ey)) ⟨I.frz _ _ e1, I.frz _ _ e2, by simp, hQ _ f [] _ (.refl ..) I (.fro (.bool _)) (.refl s)⟩ hu
      · cases eq
    | _ => cases eq
  | _ => cases eq
set_option tactic.hygienic true in
theorem op_gt : OpOk2 k X (compareOp .Gt) (cmpS .gt) := by
  intro A P f st vs as s d e sl v u hA I r q eq E Q hQ
  have hu : A.units < cLine := by have := hA.un; (first | lia | omega)
  cases d with
  | int a =>
    cases e with
    | int b => cases eq; cases r; cases q; exact PySem.P.gt_int (hQ _ f [] _ (.refl ..) I (.fro (.bool _)) (.refl s))
    | _ => cases eq
  | list a =>
    cases e with
    | list b =>
      simp only [cmpS, cmpD, plt] at eq
      split at eq
      · rename_i y x ey ex
        cases eq
        cases r with
        | list e1 k1 r1 =>
          cases q with
          | list e2 k2 r2 =>
            exact richCompare_meets_room (op := .Gt) ⟨_, I.frz _ _ e1, rfl⟩ ⟨_, I.frz _ _ e2, rfl⟩ F.slot_list_gt F.entry_list_gt (F.args_list_gt_2 _ _)
              (list_gt _ _ _ _ _ _ x y (intsOf_some r1 ex) (intsOf_some r2 ey)) ⟨I.frz _ _ e1, I.frz _ _ e2, by simp, hQ _ f [] _ (.refl ..) I (.fro (.bool _)) (.refl s)⟩ hu
      · cases eq
    | _ => cases eq
  | none => cases e <;> cases eq
  | bool => cases e <;> cases eq
  | tup => cases e <;> cases eq
end
end Mini
end
section
set_option autoImplicit false
set_option linter.unusedVariables false
set_option linter.unusedSimpArgs false
namespace Mini
set_option tactic.hygienic false
open PySem PySem.Calls PyProof.Rows
section
variable {k : Nat} {X : Fx}
noncomputable def Tree := Around → (Value → Shared → Prop) → (Value → Shared → Prop) → Shared → Prop
noncomputable def TreeOk (k : Nat) (X : Fx) (T : Tree) (g : St → Option (Slot × St)) : Prop :=
  ∀ (A : Around) (P f : Frz) (st : St) (vs : Nat → Value) (as : Nat → List Addr) (s : Shared) (sl : Slot) (st' : St), AOk k A → Inv X P f st vs as s.heap → g st = some (sl, st') →
    ∀ (E : Value → Shared → Prop) (Q : Value → Shared → Prop),
      (∀ v f' as' ar s', Grow P f f' → Inv X P f' st' vs as' s'.heap → Res X P f' as' s'.heap v sl ar → Same s s' → Q v s') → T A E Q s
noncomputable def T2 (X : Fx) (x y : Expr) (t : Value → Value → Sem Value) : Tree := fun A E Q s =>
  wpAny (model X.prog X.w) A (eval x X.env) (fun v s₁ => wpAny (model X.prog X.w) A (eval y X.env) (fun u s₂ => wpAny (model X.prog X.w) A (t v u) Q E s₂) E s₁) E s
theorem tree_bin {x y : Expr} {r q : R} {t : Value → Value → Sem Value} {op : D → D → Option Slot} (hx : ROk k X x r) (hy : ROk k X y q) (ho : OpOk2 k X t op) : TreeOk k X (T2 X x y t) (bin r q op).val := by
  intro A P f st vs as s sl st' hA I hg E Q hQ
  unfold bin R.of at hg
  revert hg; refine bind_er2 fun d st1 e1 hg => ?_
  revert hg; refine bind_er2 fun d2 st2 e2 hg => ?_
  revert hg; refine bind_er fun sl' e3 hg => ?_
  cases hg
  refine hx.F A P f st vs as s d st1 hA I e1 E _ fun v f1 as1 s1 G1 I1 r1 S1 => ?_
  refine hy.F A P f1 st1 vs as1 s1 d2 _ hA I1 e2 E _ fun u f2 as2 s2 G2 I2 r2 S2 => ?_
  exact ho A P f2 _ vs as2 s2 d d2 sl' v u hA I2 (r1.mono G2.sub) r2 e3 E Q fun v' f3 ar s3 G3 I3 R3 S3 => hQ v' f3 as2 ar s3 ((G1.trans G2).trans G3) I3 R3 ((S1.trans S2).trans S3)
theorem tst_some {g : St → Option (Slot × St)} {st st' : St} {b : Bool} (h : tstOf g st = some (b, st')) : ∃ sl, g st = some (sl, st') ∧ sl.frz = some (.bool b) := by
  unfold tstOf at h
  revert h; refine bind_er2 fun d st1 e1 h => ?_
  obtain ⟨sl, e2, e3⟩ := frzR_some e1
  cases d with
  | bool c => cases h; exact ⟨sl, e2, e3⟩
  | _ => cases h
theorem frz_bool {sl : Slot} {b : Bool} (h : sl.frz = some (.bool b)) : sl = .fro (.bool b) := by
  cases sl <;> simp [Slot.frz] at h
  subst h; rfl
theorem rok_cmp {x y : Expr} {o : CmpOp} {pos : Pos} {g : St → Option (Slot × St)} (h : TreeOk k X (T2 X x y (compareOp o)) g) (hm : behindInMarks o y = false) : ROk k X (.Compare x [o] [y] pos) (R.of g) := by
  have hv : ValOk k X (.Compare x [o] [y] pos) g := fun A P f st vs as s sl st' hA I hg E Q hQ => wpAny_Compare1 (h A P f st vs as s sl st' hA I hg E Q hQ) hm
  refine ⟨hv, ?_, hv.bor⟩
  intro A P f st vs as s b st' hA I hg E Q hQ
  obtain ⟨sl, e1, e2⟩ := tst_some hg
  have := frz_bool e2
  subst this
  refine wpAny_isTrue_Compare1 (h A P f st vs as s _ st' hA I e1 E _ fun v f' as' ar s' G I' R S => ?_) hm
  cases R.ok with
  | fro r => cases r; exact wpAny_truthy_bool (hQ f' as' s' G I' S)
theorem op_cmp {o : CmpOp} {c : Cp} (h : opOf o = some c) : OpOk2 k X (compareOp o) (cmpS c) := by
  cases o <;> cases h
  · exact op_eq
  · exact op_ne
  · exact op_lt
  · exact op_le
  · exact op_gt
  · exact op_ge
theorem rok_isNone {ng : Bool} {x y : Expr} {pos : Pos} {r : R} {o : CmpOp} (hx : ROk k X x r) (ho : o = if ng then .IsNot else .Is) (hy : isNone' y = true) : ROk k X (.Compare x [o] [y] pos) (un r (noneS ng)) := by
  obtain ⟨q, p, hyv⟩ := none1 hy
  subst hyv
  have hm : behindInMarks o (.Constant .none q p) = false := rfl
  refine rok_cmp ?_ hm
  intro A P f st vs as s sl st' hA I hg E Q hQ
  revert hg; refine bind_er2 fun d st1 e1 hg => ?_
  revert hg; refine bind_er fun sl' e2 hg => ?_
  cases hg
  refine hx.F A P f st vs as s d _ hA I e1 E _ fun v f1 as1 s1 G1 I1 r1 S1 => ?_
  refine wpAny_Constant_none ?_
  have hb : (v == Value.none) = D.eqv d .none := by
    cases r1 <;> first | rfl | (simp; rfl)
  cases e2
  cases ng with
  | true =>
    simp only [if_true] at ho
    subst ho
    refine isNot_none (hQ _ f1 as1 [] s1 G1 I1 ?_ S1)
    rw [hb]; exact .fro (.bool _)
  | false =>
    simp only [Bool.false_eq_true, if_false] at ho
    subst ho
    refine is_none (hQ _ f1 as1 [] s1 G1 I1 ?_ S1)
    rw [hb]; exact .fro (.bool _)
theorem SlotOk.peekReads {f : Frz} {h : Heap} {v : Value} {ax : List Addr} {s : Slot} {d : D} (x : SlotOk f h X v ax s) (hf : ∀ a o, f a = some o → h.get? a = some o) (e : s.peek = some d) : ∃ as, Reads h v d.py as := by
  cases x with
  | fro r => cases e; exact r.reads hf
  | own g k r =>
    cases e
    obtain ⟨as, q⟩ := r.reads hf
    exact ⟨_, .list g rfl rfl q⟩
  | _ => cases e
theorem peek_seq {s : Slot} {d : D} {l : List D} (e : s.peek = some d) (e2 : seqD d = some l) : d = .list l := by
  cases d <;> cases e2
  rfl
set_option tactic.hygienic true in
theorem in_ok {ng : Bool} {A : Around} {P f : Frz} {st : St} {vs : Nat → Value} {as : Nat → List Addr} {s : Shared} {d : D} {sl sl' : Slot} {v u : Value} {ax : List Addr} (hA : AOk k A) (I : Inv X P f st vs as s.heap)
    (r : Rep f v d) (x : SlotOk f s.heap X u ax sl) (e : innS ng d sl = some sl') (E : Value → Shared → Prop) (Q : Value → Shared → Prop)
    (hQ : ∀ v' s', Inv X P f st vs as s'.heap → Res X P f as s'.heap v' sl' [] → Same s s' → Q v' s') : wpAny (model X.prog X.w) A (compareOp (if ng then .NotIn else .In) v u) Q E s := by
  have lists : ∀ d2 l, sl.peek = some d2 → seqD d2 = some l → small d = true → sl' = .fro (.bool (if ng then !(l.any fun y => D.eqv y d) else l.any fun y => D.eqv y d)) → wpAny (model X.prog X.w) A (compareOp (if ng then .NotIn else .In) v u) Q E s := by
    intro d2 l p1 p2 hs q
    have := peek_seq p1 p2
    subst this
    obtain ⟨a1, q1⟩ := x.peekReads I.frz p1
    obtain ⟨a2, q2⟩ := r.reads I.frz
    have hu : A.units + 1 + min (PyData.depthAll (D.pys l)) d.py.depth < cLine := by
      have := hA.un
      have := small_depth hs
      have := Nat.min_le_right (PyData.depthAll (D.pys l)) d.py.depth
      (first | lia | omega)
    have ha : ((D.pys l).any fun y => PyData.eqv y d.py) = l.any fun y => D.eqv y d := by
      clear p1 p2 q q1 hu
      induction l with
      | nil => rfl
      | cons y ys ih => simp only [Dpysq1, Dpysq2, List.any_cons]; rw [py_eqv, ih]
    subst q
    cases ng with
    | true =>
      refine SeqAt.notIn_list_reads q1 q2 (pys_canLay l) (py_canLay d) hu ?_
      rw [ha]; exact hQ _ s I (.fro (.bool _)) (.refl s)
    | false =>
      refine SeqAt.in_list_reads q1 q2 (pys_canLay l) (py_canLay d) hu ?_
      rw [ha]; exact hQ _ s I (.fro (.bool _)) (.refl s)
  have other : ∀ o, (if small d then do
      let e ← sl.peek
      let l ← seqD e
      some (Slot.fro (D.bool (if ng then !(l.any fun y => D.eqv y d) else l.any fun y => D.eqv y d)))
      else none) = some o → o = sl' → wpAny (model X.prog X.w) A (compareOp (if ng then .NotIn else .In) v u) Q E s := by
    intro o ho eo
    subst eo
    split at ho
    · rename_i hs
      revert ho; refine bind_r2 fun d2 p1 l p2 ho => ?_
      exact lists d2 l p1 p2 hs (by cases ho; rfl)
    · cases ho
  cases x with
  | dct hd hl hs =>
    rename_i a kvs
    cases d with
    | int i =>
      cases r with
      | int i t =>
      have hv : (valueAt kvs i).isSome = (kvs.map (·.1)).contains i := by
        clear hd hl e other lists
        induction kvs with
        | nil => rfl
        | cons p ps ih =>
          simp only [valueAt, List.find?_cons, List.map_cons, List.contains_cons] at ih ⊢
          by_cases hp : p.1 = i
          · simp [hp]
          · have : (i == p.1) = false := by simpa using fun q => hp q.symm
            simp only [hp, decide_false, this, Bool.false_or]; exact ih
      cases e
      cases ng with
      | true =>
        refine wpAny_notIn_of (knd := intKind X.prog X.w) (k := i) (by simp [intKind, Value.isInt]) hs hd.mapOf ?_
        rw [hv]; exact hQ _ _ (I.ext fun _ _ e => e) (.fro (.bool _)) (.mk' s s.heap _)
      | false =>
        refine wpAny_in_of (knd := intKind X.prog X.w) (k := i) (by simp [intKind, Value.isInt]) hs hd.mapOf ?_
        rw [hv]; exact hQ _ _ (I.ext fun _ _ e => e) (.fro (.bool _)) (.mk' s s.heap _)
    | _ => cases e
  | unset => exact other _ e rfl
  | fro => exact other _ e rfl
  | own => exact other _ e rfl
  | nest => exact other _ e rfl
  | deck => exact other _ e rfl
theorem rok_inn {ng : Bool} {x y : Expr} {pos : Pos} {r q : R} {o : CmpOp} (hx : ROk k X x r) (hy : ROk k X y q) (ho : o = if ng then .NotIn else .In) (hm : behindInMarks o y = false) : ROk k X (.Compare x [o] [y] pos) (innR ng r q) := by
  refine rok_cmp ?_ hm
  intro A P f st vs as s sl st' hA I hg E Q hQ
  revert hg; refine bind_er2 fun d st1 e1 hg => ?_
  revert hg; refine bind_er2 fun s2 st2 e2 hg => ?_
  revert hg; refine bind_er fun sl' e3 hg => ?_
  cases hg
  refine hx.F A P f st vs as s d st1 hA I e1 E _ fun v f1 as1 s1 G1 I1 r1 S1 => ?_
  refine hy.bor A P f1 st1 vs as1 s1 s2 _ hA I1 e2 E _ fun u f2 as2 ax s2 G2 I2 ok S2 => ?_
  rw [ho]
  exact in_ok hA I2 (r1.mono G2.sub) ok e3 E Q fun v' s3 I3 R3 S3 => hQ v' f2 as2 [] s3 (G1.trans G2) I3 R3 ((S1.trans S2).trans S3)
set_option tactic.hygienic true in
theorem nil_reads {f : Frz} {h : Heap} {v : Value} {ax : List Addr} {s : Slot} {dk : List Int} {b : Bool} (x : SlotOk f h X v ax s) (hf : ∀ a o, f a = some o → h.get? a = some o)
    (hd : ∀ a, X.dk = some a → ∃ ws n, h.get? a = some (seqObj "list" ws n) ∧ IntsAre ws.toList dk ∧ dk.length ≤ lim) (e : nilOf s dk = some b) : ∃ xs as, Reads h v (.list xs) as ∧ PyData.canLayAll0 xs = true ∧ xs.isEmpty = b := by
  cases x with
  | fro r =>
    rename_i d
    cases d with
    | list l =>
      cases e
      obtain ⟨as, q⟩ := r.reads hf
      exact ⟨_, as, q, pys_canLay l, by cases l <;> rfl⟩
    | _ => cases e
  | own g k r =>
    rename_i l
    cases e
    obtain ⟨as, q⟩ := r.reads hf
    exact ⟨_, _, .list g rfl rfl q, pys_canLay l, by cases l <;> rfl⟩
  | deck g =>
    cases e
    obtain ⟨ws, n, g2, hI, _⟩ := hd _ g
    refine ⟨dk.map PyData.int, _, .list g2 rfl rfl (ints_readAll h hI), ?_, by cases dk <;> rfl⟩
    have : ∀ l : List Int, PyData.canLayAll0 (l.map PyData.int) = true := by
      intro l
      induction l with
      | nil => rfl
      | cons a r ih => simp [PyData.canLayAll0, PyData.canLay0, ih]
    exact this dk
  | _ => cases e
theorem rok_isNil {ng : Bool} {i : Nat} {x : Str} {p1 p2 pos : Pos} {o : CmpOp} (hX : FxOk X) (hd : (x == ("__debug__" : Str)) = false) (hi : X.names[i]? = some (some x)) (ho : o = if ng then .NotEq else .Eq) :
    ROk k X (.Compare (.Name x p1) [o] [.List [] p2] pos) (isNilR ng i) := by
  refine rok_cmp ?_ rfl
  intro A P f st vs as s sl st' hA I hg E Q hQ
  revert hg; refine bind_r2 fun s0 e1 b e2 hg => ?_
  cases hg
  have hu : s0 ≠ .unset := fun q => by subst q; cases e2
  refine wp_var hX hd I hi e1 hu ?_
  refine wpAny_List (wpAny_items_nil ⟨by simp, ?_⟩)
  obtain ⟨xs, bs, q1, q2, q3⟩ := nil_reads (I.slot i s0 e1) I.frz I.deck e2
  have keep : ∀ a o, s.heap.get? a = some o → (s.heap.push (seqObj "list" #[] 0)).get? a = some o := fun a o e => Heap.get?_push_of_some _ e
  have q1' : Reads (s.heap.push (seqObj "list" #[] 0)) (vs i) (.list xs) bs := Reads.keeps keep q1
  have q4 : Reads (s.heap.push (seqObj "list" #[] 0)) (.ref s.heap.objs.size) (.list []) [s.heap.objs.size] := .list (Heap.get?_push_size _ rfl) rfl rfl .nil
  have hu : A.units + min (PyData.list xs).depth (PyData.list []).depth < cLine := by
    have := hA.un
    have : (PyData.list []).depth = 1 := by simp [PyData.depth, PyData.depthAll]
    have := Nat.min_le_right (PyData.list xs).depth (PyData.list []).depth
    (first | lia | omega)
  have he : PyData.eqv (.list xs) (.list []) = b := by
    rw [← q3]; cases xs <;> simp [PyData.eqv, PyData.eqvAll]
  subst ho
  cases ng with
  | true =>
    refine SeqAt.compareNe_reads q1' q4 (by simpa [PyData.canLay0] using q2) (by simp [PyData.canLay0, PyData.canLayAll0]) hu ?_
    rw [he]; exact hQ _ f as [] _ (.refl ..) (I.ext keep) (.fro (.bool _)) ⟨rfl, rfl, rfl⟩
  | false =>
    refine SeqAt.compareEq_reads q1' q4 (by simpa [PyData.canLay0] using q2) (by simp [PyData.canLay0, PyData.canLayAll0]) hu ?_
    rw [he]; exact hQ _ f as [] _ (.refl ..) (I.ext keep) (.fro (.bool _)) ⟨rfl, rfl, rfl⟩
theorem rok_not {x : Expr} {pos : Pos} {r : R} (hx : ROk k X x r) : ROk k X (.UnaryOp .Not x pos) (notR r) := by
  have hv : ValOk k X (.UnaryOp .Not x pos) (un r notD).val := val_un hx op_not fun A E Q s h => wpAny_UnaryOp h
  refine ⟨hv, ?_, hv.bor⟩
  intro A P f st vs as s b st' hA I hg E Q hQ
  revert hg; refine bind_er2 fun c st1 e1 hg => ?_
  cases hg
  exact wpAny_isTrue_Not (hx.tst A P f st vs as s c _ hA I e1 E _ fun f' as' s' G I' S => hQ f' as' s' G I' S)
theorem Rep.bool_inv {f : Frz} {v : Value} {b : Bool} (r : Rep f v (.bool b)) : v = .bool b := by cases r; rfl
theorem rok_and {x y : Expr} {pos : Pos} {r q : R} (hx : ROk k X x r) (hy : ROk k X y q) : ROk k X (.BoolOp .And [x, y] pos) (andR r q) := by
  have hv : ValOk k X (.BoolOp .And [x, y] pos) (andV r q) := by
    intro A P f st vs as s sl st' hA I hg E Q hQ
    revert hg; refine bind_er2 fun d st1 e1 hg => ?_
    refine wpAny_And2 (hx.F A P f st vs as s d st1 hA I e1 E _ fun v f1 as1 s1 G1 I1 r1 S1 => ?_)
    cases d with
    | bool b =>
      have := r1.bool_inv
      subst this
      refine wpAny_truthy_bool ?_
      cases b with
      | true => exact hy.val A P f1 st1 vs as1 s1 sl st' hA I1 hg E Q fun v f2 as2 ar s2 G2 I2 R2 S2 => hQ v f2 as2 ar s2 (G1.trans G2) I2 R2 (S1.trans S2)
      | false => cases hg; exact hQ _ f1 as1 [] s1 G1 I1 (.fro (.bool _)) S1
    | _ => cases hg
  refine ⟨hv, ?_, hv.bor⟩
  intro A P f st vs as s b st' hA I hg E Q hQ
  revert hg; refine bind_er2 fun c st1 e1 hg => ?_
  refine wpAny_isTrue_BoolOp (wpAny_allTrue_And_cons (hx.tst A P f st vs as s c st1 hA I e1 E _ fun f1 as1 s1 G1 I1 S1 => ?_))
  cases c with
  | false => cases hg; exact hQ f1 as1 s1 G1 I1 S1
  | true =>
    refine wpAny_allTrue_And_cons (hy.tst A P f1 st1 vs as1 s1 b st' hA I1 hg E _ fun f2 as2 s2 G2 I2 S2 => ?_)
    cases b with
    | false => exact hQ f2 as2 s2 (G1.trans G2) I2 (S1.trans S2)
    | true => exact wpAny_allTrue_And_nil (hQ f2 as2 s2 (G1.trans G2) I2 (S1.trans S2))
theorem rok_or {x y : Expr} {pos : Pos} {r q : R} (hx : ROk k X x r) (hy : ROk k X y q) : ROk k X (.BoolOp .Or [x, y] pos) (orR r q) := by
  have hv : ValOk k X (.BoolOp .Or [x, y] pos) (orV r q) := by
    intro A P f st vs as s sl st' hA I hg E Q hQ
    revert hg; refine bind_er2 fun d st1 e1 hg => ?_
    refine wpAny_Or2 (hx.F A P f st vs as s d st1 hA I e1 E _ fun v f1 as1 s1 G1 I1 r1 S1 => ?_)
    cases d with
    | bool b =>
      have := r1.bool_inv
      subst this
      refine wpAny_truthy_bool ?_
      cases b with
      | false => exact hy.val A P f1 st1 vs as1 s1 sl st' hA I1 hg E Q fun v f2 as2 ar s2 G2 I2 R2 S2 => hQ v f2 as2 ar s2 (G1.trans G2) I2 R2 (S1.trans S2)
      | true => cases hg; exact hQ _ f1 as1 [] s1 G1 I1 (.fro (.bool _)) S1
    | _ => cases hg
  refine ⟨hv, ?_, hv.bor⟩
  intro A P f st vs as s b st' hA I hg E Q hQ
  revert hg; refine bind_er2 fun c st1 e1 hg => ?_
  refine wpAny_isTrue_BoolOp (wpAny_allTrue_Or_cons (hx.tst A P f st vs as s c st1 hA I e1 E _ fun f1 as1 s1 G1 I1 S1 => ?_))
  cases c with
  | true => cases hg; exact hQ f1 as1 s1 G1 I1 S1
  | false =>
    refine wpAny_allTrue_Or_cons (hy.tst A P f1 st1 vs as1 s1 b st' hA I1 hg E _ fun f2 as2 s2 G2 I2 S2 => ?_)
    cases b with
    | true => exact hQ f2 as2 s2 (G1.trans G2) I2 (S1.trans S2)
    | false => exact wpAny_allTrue_Or_nil (hQ f2 as2 s2 (G1.trans G2) I2 (S1.trans S2))
theorem rok_ite {t x y : Expr} {pos : Pos} {p r q : R} (ht : ROk k X t p) (hx : ROk k X x r) (hy : ROk k X y q) : ROk k X (.IfExp t x y pos) (iteR p r q) := by
  refine ⟨?_, ?_, ?_⟩
  · intro A P f st vs as s sl st' hA I hg E Q hQ
    revert hg; refine bind_er2 fun c st1 e1 hg => ?_
    refine wpAny_IfExp (ht.tst A P f st vs as s c st1 hA I e1 E _ fun f1 as1 s1 G1 I1 S1 => ?_)
    cases c with
    | true => exact hx.val A P f1 st1 vs as1 s1 sl st' hA I1 hg E Q fun v f2 as2 ar s2 G2 I2 R2 S2 => hQ v f2 as2 ar s2 (G1.trans G2) I2 R2 (S1.trans S2)
    | false => exact hy.val A P f1 st1 vs as1 s1 sl st' hA I1 hg E Q fun v f2 as2 ar s2 G2 I2 R2 S2 => hQ v f2 as2 ar s2 (G1.trans G2) I2 R2 (S1.trans S2)
  · intro A P f st vs as s b st' hA I hg E Q hQ
    revert hg; refine bind_er2 fun c st1 e1 hg => ?_
    refine isTrue_IfExp (ht.tst A P f st vs as s c st1 hA I e1 E _ fun f1 as1 s1 G1 I1 S1 => ?_)
    cases c with
    | true => exact hx.tst A P f1 st1 vs as1 s1 b st' hA I1 hg E Q fun f2 as2 s2 G2 I2 S2 => hQ f2 as2 s2 (G1.trans G2) I2 (S1.trans S2)
    | false => exact hy.tst A P f1 st1 vs as1 s1 b st' hA I1 hg E Q fun f2 as2 s2 G2 I2 S2 => hQ f2 as2 s2 (G1.trans G2) I2 (S1.trans S2)
  · intro A P f st vs as s sl st' hA I hg E Q hQ
    revert hg; refine bind_er2 fun c st1 e1 hg => ?_
    refine wpAny_IfExp (ht.tst A P f st vs as s c st1 hA I e1 E _ fun f1 as1 s1 G1 I1 S1 => ?_)
    cases c with
    | true => exact hx.bor A P f1 st1 vs as1 s1 sl st' hA I1 hg E Q fun v f2 as2 ax s2 G2 I2 R2 S2 => hQ v f2 as2 ax s2 (G1.trans G2) I2 R2 (S1.trans S2)
    | false => exact hy.bor A P f1 st1 vs as1 s1 sl st' hA I1 hg E Q fun v f2 as2 ax s2 G2 I2 R2 S2 => hQ v f2 as2 ax s2 (G1.trans G2) I2 R2 (S1.trans S2)
theorem isSet_some {st : St} {i : Nat} (h : isSet st i = true) : ∃ s, st.v[i]? = some s ∧ s ≠ .unset := by
  unfold isSet at h
  cases e : st.v[i]? with
  | none => rw [e] at h; cases h
  | some s => rw [e] at h; exact ⟨s, rfl, fun q => by subst q; cases h⟩
set_option tactic.hygienic true in
theorem rok_var {i : Nat} {x : Str} {pos : Pos} (hX : FxOk X) (hd : (x == ("__debug__" : Str)) = false) (hi : X.names[i]? = some (some x)) : ROk k X (.Name x pos) (varR i) := by
  have hv := val_var (k := k) (pos := pos) hX hd hi
  refine ⟨hv, hv.tst (isTrue_plainT rfl), ?_⟩
  intro A P f st vs as s sl st' hA I hg E Q hQ
  unfold varR at hg
  dsimp only at hg
  split at hg
  · rename_i hs
    obtain ⟨s0, e0, hu⟩ := isSet_some hs
    rw [e0] at hg
    cases hg
    exact wp_var hX hd I hi e0 hu (hQ _ f as _ s (.refl ..) I (I.slot i _ e0) (.refl s))
  · cases hg
theorem opOf_mark {o : CmpOp} {c : Cp} (h : opOf o = some c) (e : Expr) : behindInMarks o e = false := by
  cases e with
  | Set l q p =>
    cases o <;> first | cases h | skip
    all_goals
      show (q == 0 && false && l.all (constantsAlone 8)) = false
      simp
  | _ => rfl
theorem rok_chain {x y z : Expr} {pos : Pos} {o1 o2 : CmpOp} {c1 c2 : Cp} {r q p : R} (hx : ROk k X x r) (hy : ROk k X y q) (hz : ROk k X z p) (h1 : opOf o1 = some c1) (h2 : opOf o2 = some c2) :
    ROk k X (.Compare x [o1, o2] [y, z] pos) (chainR c1 c2 r q p) := by
  have hm : lastMarks [o1, o2] [y, z] = false := by show behindInMarks o2 z = false; exact opOf_mark h2 z
  have hv : ValOk k X (.Compare x [o1, o2] [y, z] pos) (chainR c1 c2 r q p).val := by
    intro A P f st vs as s sl st' hA I hg E Q hQ
    revert hg; refine bind_er2 fun d st1 e1 hg => ?_
    revert hg; refine bind_er2 fun e st2 e2 hg => ?_
    revert hg; refine bind_er fun b e3 hg => ?_
    refine Compare_chain (hx.F A P f st vs as s d st1 hA I e1 E _ fun v f1 as1 s1 G1 I1 r1 S1 => ?_) hm
    refine chain_link (hy.F A P f1 st1 vs as1 s1 e st2 hA I1 e2 E _ fun u f2 as2 s2 G2 I2 r2 S2 => ?_)
    refine op_cmp h1 A P f2 st2 vs as2 s2 d e (.fro (.bool b)) v u hA I2 (r1.mono G2.sub) r2 (by simp only [cmpS, e3]; rfl) E _ fun v' f3 ar s3 G3 I3 R3 S3 => ?_
    have hb : v' = .bool b := by cases R3.ok with | fro r => exact r.bool_inv
    subst hb
    refine wpAny_truthy_bool ?_
    cases b with
    | false => cases hg; exact hQ _ f3 as2 ar s3 ((G1.trans G2).trans G3) I3 R3 ((S1.trans S2).trans S3)
    | true =>
      revert hg; refine bind_er2 fun g st3 e4 hg => ?_
      revert hg; refine bind_er fun b' e5 hg => ?_
      cases hg
      refine chain_last (hz.F A P f3 st2 vs as2 s3 g _ hA I3 e4 E _ fun u' f4 as4 s4 G4 I4 r4 S4 => ?_)
      exact op_cmp h2 A P f4 _ vs as4 s4 e g (.fro (.bool b')) u u' hA I4 ((r2.mono G3.sub).mono G4.sub) r4 (by simp only [cmpS, e5]; rfl) E Q fun v' f5 ar s5 G5 I5 R5 S5 =>
        hQ v' f5 as4 ar s5 ((((G1.trans G2).trans G3).trans G4).trans G5) I5 R5 ((((S1.trans S2).trans S3).trans S4).trans S5)
  refine ⟨hv, ?_, hv.bor⟩
  intro A P f st vs as s bb st' hA I hg E Q hQ
  have hg : tstOf (chainR c1 c2 r q p).val st = some (bb, st') := hg
  obtain ⟨sl, hg, hs⟩ := tst_some hg
  have := frz_bool hs
  subst this
  revert hg; refine bind_er2 fun d st1 e1 hg => ?_
  revert hg; refine bind_er2 fun e st2 e2 hg => ?_
  revert hg; refine bind_er fun b e3 hg => ?_
  refine isTrue_chain (hx.F A P f st vs as s d st1 hA I e1 E _ fun v f1 as1 s1 G1 I1 r1 S1 => ?_) hm
  refine test_link (hy.F A P f1 st1 vs as1 s1 e st2 hA I1 e2 E _ fun u f2 as2 s2 G2 I2 r2 S2 => ?_)
  refine op_cmp h1 A P f2 st2 vs as2 s2 d e (.fro (.bool b)) v u hA I2 (r1.mono G2.sub) r2 (by simp only [cmpS, e3]; rfl) E _ fun v' f3 ar s3 G3 I3 R3 S3 => ?_
  have hb : v' = .bool b := by cases R3.ok with | fro r => exact r.bool_inv
  subst hb
  refine wpAny_truthy_bool ?_
  cases b with
  | false => cases hg; exact hQ f3 as2 s3 ((G1.trans G2).trans G3) I3 ((S1.trans S2).trans S3)
  | true =>
    revert hg; refine bind_er2 fun g st3 e4 hg => ?_
    revert hg; refine bind_er fun b' e5 hg => ?_
    cases hg
    refine test_last (hz.F A P f3 st2 vs as2 s3 g _ hA I3 e4 E _ fun u' f4 as4 s4 G4 I4 r4 S4 => ?_)
    refine op_cmp h2 A P f4 _ vs as4 s4 e g (.fro (.bool bb)) u u' hA I4 ((r2.mono G3.sub).mono G4.sub) r4 (by simp only [cmpS, e5]; rfl) E _ fun v' f5 ar s5 G5 I5 R5 S5 => ?_
    have hb : v' = .bool bb := by cases R5.ok with | fro r => exact r.bool_inv
    subst hb
    exact wpAny_truthy_bool (hQ f5 as4 s5 ((((G1.trans G2).trans G3).trans G4).trans G5) I5 ((((S1.trans S2).trans S3).trans S4).trans S5))
end
end Mini
end
section
set_option autoImplicit false
set_option linter.unusedVariables false
set_option linter.unusedSimpArgs false
namespace Mini
set_option tactic.hygienic false
open PySem PySem.Calls PyProof.Rows
noncomputable def bootV : List (Str × Value) := [("len", .builtin "len"), ("abs", .builtin "abs"), ("min", .builtin "min"), ("list", .type "list"), ("sorted", .builtin "sorted"), ("range", .type "range"), ("enumerate", .type "enumerate"), ("zip", .type "zip")]
structure Gnd (g : Glb) (hb : Heap) (mg mb : Str → Option Value) : Prop where
  gn : hb.Ns mainGlobals mg
  bn : hb.Ns builtinsNs mb
  lim : hb.NoLimit
  boot : ∀ p ∈ bootV, mg p.1 = none ∧ mb p.1 = some p.2
  consts : ∀ p ∈ g.consts, ∃ t, mg p.1 = some (.int p.2 t)
structure EnvOk (X : Fx) : Prop where
  kind : X.env.scope.kind = .function
  glob : X.env.globals = mainGlobals
  bi : X.env.builtins = builtinsNs
  nodup : ∀ (i j : Nat) (x : Str), X.names[i]? = some (some x) → X.names[j]? = some (some x) → i = j
  sys : ∃ a o, sysModules ≤ a ∧ X.hb.get? a = some o
structure CxOk (c : Cx) (X : Fx) : Prop where
  isG : ∀ x, c.isG x = true → X.env.kindOf x = some .globalImplicit
  res : ∀ x i, c.res x = some i → X.names[i]? = some (some x)
  dbg : c.names.lookup ("__debug__" : Str) = none
  loc : ∀ x, c.isL x = true → X.env.kindOf x = some .local
  cel : ∀ x, c.isC x = true → X.env.kindOf x = some .cell
  top : c.inner = [] → X.names = c.outer.map some ∧ (∀ x, X.env.kindOf x = c.names.lookup x) ∧ (∀ x, X.env.kindOf x = some .cell → ∃ cc, X.env.cells.lookup x = some cc) ∧ c.outer.Nodup
theorem EnvOk.fx {X : Fx} (h : EnvOk X) : FxOk X := ⟨h.kind, h.nodup⟩
theorem CxOk.ne_dbg {c : Cx} {X : Fx} (h : CxOk c X) {x : Str} (e : c.names.lookup x ≠ none) : (x == ("__debug__" : Str)) = false := by
  cases q : (x == ("__debug__" : Str)) with
  | false => rfl
  | true => exact absurd (eq_of_beq q ▸ h.dbg) e
theorem CxOk.dG {c : Cx} {X : Fx} (h : CxOk c X) {x : Str} (e : c.isG x = true) : (x == ("__debug__" : Str)) = false := h.ne_dbg (by
  unfold Cx.isG at e
  intro q
  rw [q] at e
  cases e)
theorem CxOk.dR {c : Cx} {X : Fx} (h : CxOk c X) {x : Str} {i : Nat} (e : c.res x = some i) : (x == ("__debug__" : Str)) = false := h.ne_dbg (by
  unfold Cx.res at e
  intro q
  rw [q] at e
  cases e)
section
variable {k : Nat} {X : Fx} {g : Glb} {c : Cx} {mg mb : Str → Option Value}
theorem Inv.keepB {P f : Frz} {st : St} {vs : Nat → Value} {as : Nat → List Addr} {h : Heap} (I : Inv X P f st vs as h) : ∀ a o, X.hb.get? a = some o → h.get? a = some o := fun a o e => I.prs a o (I.base a o e)
theorem wp_builtin {A : Around} {E : Value → Shared → Prop} {Q : Value → Shared → Prop} {s : Shared} {x : Str} {v : Value} {pos : Pos} {P f : Frz} {st : St} {vs : Nat → Value} {as : Nat → List Addr} (G : Gnd g X.hb mg mb) (hE : EnvOk X) (hC : CxOk c X)
    (I : Inv X P f st vs as s.heap) (hx : c.isG x = true) (hp : (x, v) ∈ bootV) (h : Q v s) : wpAny (model X.prog X.w) A (eval (.Name x pos) X.env) Q E s := by
  obtain ⟨h1, h2⟩ := G.boot _ hp
  exact Name_function_global hE.kind (hC.isG x hx) (loadGlobal_builtin (by rw [hE.glob]; exact G.gn.keeps I.keepB) h1 (by rw [hE.bi]; exact G.bn.keeps I.keepB) h2 h) (hC.dG hx)
theorem wp_const {A : Around} {E : Value → Shared → Prop} {Q : Value → Shared → Prop} {s : Shared} {x : Str} {i : Int} {pos : Pos} {P f : Frz} {st : St} {vs : Nat → Value} {as : Nat → List Addr} (G : Gnd g X.hb mg mb) (hE : EnvOk X) (hC : CxOk c X)
    (I : Inv X P f st vs as s.heap) (hx : c.isG x = true) (hp : g.consts.lookup x = some i) (h : ∀ t, Q (.int i t) s) : wpAny (model X.prog X.w) A (eval (.Name x pos) X.env) Q E s := by
  obtain ⟨t, ht⟩ := G.consts _ (mem_of_lookup hp)
  exact Name_function_global hE.kind (hC.isG x hx) (loadGlobal_global (by rw [hE.glob]; exact G.gn.keeps I.keepB) ht (h t)) (hC.dG hx)
theorem rok_const {x : Str} {i : Int} {pos : Pos} (G : Gnd g X.hb mg mb) (hE : EnvOk X) (hC : CxOk c X) (hx : c.isG x = true) (hp : g.consts.lookup x = some i) : ROk k X (.Name x pos) (pureR (.fro (.int i))) := by
  refine ROk.of ?_ rfl
  intro A P f st vs as s sl st' hA I hg E Q hQ
  cases hg
  exact wp_const G hE hC I hx hp fun t => hQ _ f as [] s (.refl ..) I (.fro (.int i t)) (.refl s)
theorem starEach_cons {e : Expr} {es : List Expr} {env : Env} (h : notStar e = true) : starEach (e :: es) env = (false, eval e env) :: starEach es env := by
  cases e <;> first | rfl | cases h
noncomputable def LOk (k : Nat) (X : Fx) (es : List Expr) (l : LR) : Prop :=
  ∀ (A : Around) (P f : Frz) (st : St) (vs : Nat → Value) (as : Nat → List Addr) (s : Shared) (ds : List D) (st' : St), AOk k A → Inv X P f st vs as s.heap → l st = some (ds, st') →
    ∀ (pos : Pos) (E : Value → Shared → Prop) (Q : List Value → Shared → Prop),
      (∀ ws f' as' s', Grow P f f' → Inv X P f' st' vs as' s'.heap → RepL f' ws ds → Same s s' → Q ws s') → wpAny (model X.prog X.w) A (spliced (backTo pos (starEach es X.env))) Q E s
theorem lok_nil {cf : CF} : LOk k X [] (evL cf .nil) := by
  intro A P f st vs as s ds st' hA I hg pos E Q hQ
  cases hg
  exact wpAny_items_nil (hQ [] f as s (.refl ..) I .nil (.refl s))
theorem lok_cons {cf : CF} {e : Expr} {es : List Expr} {a : Ex} {r : Exs} (hs : notStar e = true) (h : ROk k X e (ev cf a)) (hr : LOk k X es (evL cf r)) : LOk k X (e :: es) (evL cf (.cons a r)) := by
  intro A P f st vs as s ds st' hA I hg pos E Q hQ
  revert hg; refine bind_er2 fun d st1 e1 hg => ?_
  revert hg; refine bind_er2 fun ds' st2 e2 hg => ?_
  cases hg
  refine wpAny_items_cons (h.F A P f st vs as s d st1 hA I e1 E _ fun v f1 as1 s1 G1 I1 r1 S1 => ?_) (starEach_cons hs)
  exact hr A P f1 st1 vs as1 s1 ds' _ hA I1 e2 pos E _ fun ws f2 as2 s2 G2 I2 r2 S2 => hQ _ f2 as2 s2 (G1.trans G2) I2 (.cons (r1.mono G2.sub) r2) (S1.trans S2)
set_option tactic.hygienic true in
theorem rok_list {es : List Expr} {pos : Pos} {l : LR} (h : LOk k X es l) : ROk k X (.List es pos) (lstR l) := by
  refine ROk.of ?_ rfl
  intro A P f st vs as s sl st' hA I hg E Q hQ
  revert hg; refine bind_er2 fun ds st1 e1 hg => ?_
  dsimp only at hg
  split at hg
  · rename_i hl
    cases hg
    refine wpAny_List (h A P f st vs as s ds _ hA I e1 pos E _ fun ws f1 as1 s1 G1 I1 r1 S1 => ⟨?_, ?_⟩)
    · rw [r1.length, sizeLine_eq]; unfold lim at hl; (first | lia | omega)
    · have I2 := I1.push (ws := ws.toArray) hl r1
      exact hQ _ f1 as1 _ _ G1 I2.1 I2.2 (S1.trans ⟨rfl, rfl, rfl⟩)
  · cases hg
set_option tactic.hygienic true in
theorem rok_tup {es : List Expr} {q : Nat} {pos : Pos} {l : LR} (h : LOk k X es l) : ROk k X (.Tuple es q pos) (tupR l) := by
  refine ROk.of ?_ rfl
  intro A P f st vs as s sl st' hA I hg E Q hQ
  revert hg; refine bind_er2 fun ds st1 e1 hg => ?_
  dsimp only at hg
  split at hg
  · rename_i hl
    cases hg
    refine wpAny_Tuple (h A P f st vs as s ds _ hA I e1 pos E _ fun ws f1 as1 s1 G1 I1 r1 S1 => ⟨?_, ?_⟩)
    · rw [r1.length, sizeLine_eq]; unfold lim at hl; (first | lia | omega)
    · have keep : ∀ a o, s1.heap.get? a = some o → (s1.heap.push (seqObj "tuple" ws.toArray 0)).get? a = some o := fun a o e => Heap.get?_push_of_some _ e
      obtain ⟨h1, h2, h3, h4, h5⟩ := I1.fresh (Nat.le_refl _)
      have I2 := (I1.ext keep).put (Heap.get?_push_size _ rfl) h1 h3 h4 h5
      exact hQ _ _ as1 [] _ (G1.trans (.put _ h1 h2)) I2 (.fro (.tup (Frz.put_self ..) hl (r1.mono (Frz.put_sub _ h1)))) (S1.trans ⟨rfl, rfl, rfl⟩)
  · cases hg
theorem subs_el {slice : Expr} {o i : Value} {P : Sem Value → Prop} (h1 : P (operate [o, i] (getItem o i))) (h2 : P (operate [i, o] (getItem o i))) : P (subscripted slice false o i) := by
  cases slice with
  | Slice a b c p =>
    cases c with
    | none => exact h2
    | some _ => exact h1
  | _ => exact h1
theorem wp_sub {A : Around} {E : Value → Shared → Prop} {Q : Value → Shared → Prop} {s : Shared} {value slice : Expr} {pos : Pos}
    (h : wpAny (model X.prog X.w) A (eval value X.env) (fun o s₁ => wpAny (model X.prog X.w) A (eval slice X.env) (fun i s₂ => (s₂.TypeIs o "list" ∨ s₂.TypeIs o "tuple") ∧ wpAny (model X.prog X.w) A (getItem o i) Q E s₂) E s₁) E s) :
    wpAny (model X.prog X.w) A (eval (.Subscript value slice pos) X.env) Q E s := by
  rw [eval_Subscript]
  refine wpAny_bind (wpAny_mono h (fun o s₁ h₁ => wpAny_bind (wpAny_holding (wpAny_mono h₁ (fun i s₂ h₂ => wpAny_bind (wpAny_standAt ?_)) fun _ _ x => x))) fun _ _ x => x)
  obtain ⟨hT, hg⟩ := h₂
  have hin : ∀ (K : Bool → Shared → Prop), K false s₂ → wpAny (model X.prog X.w) A (getitemInPython o) K E s₂ := by
    intro K hK
    unfold getitemInPython
    rcases hT with hT | hT
    · exact wpAny_bind (wpAny_specialOf hT F.slot_list_getitem.lookup (wpAny_pure hK))
    · exact wpAny_bind (wpAny_specialOf hT F.slot_tuple_getitem.lookup (wpAny_pure hK))
  refine wpAny_bind (hin _ ?_)
  have hsub : wpAny (model X.prog X.w) A (subscripted slice false o i) (fun r s₃ => wpAny (model X.prog X.w) A (do letTemporaryGo value o r; pure r) Q E s₃) E s₂ := by
    exact subs_el (P := fun m => wpAny (model X.prog X.w) A m _ E s₂)
      (wpAny_operate' (wpAny_mono hg (fun r s₃ h₃ => wpAny_bind (wpAny_letTemporaryGo (wpAny_pure h₃))) fun _ _ x => x))
      (wpAny_operate' (wpAny_mono hg (fun r s₃ h₃ => wpAny_bind (wpAny_letTemporaryGo (wpAny_pure h₃))) fun _ _ x => x))
  exact wpAny_bind hsub
inductive SeqAt (f : Frz) (h : Heap) : Value → D → Prop
  | list {a : Addr} {ws : Array Value} {n : Nat} {l : List D} : h.get? a = some (seqObj "list" ws n) → l.length ≤ lim → RepL f ws.toList l → SeqAt f h (.ref a) (.list l)
  | tup {a : Addr} {ws : Array Value} {n : Nat} {l : List D} : h.get? a = some (seqObj "tuple" ws n) → l.length ≤ lim → RepL f ws.toList l → SeqAt f h (.ref a) (.tup l)
theorem Rep.seqAt {f : Frz} {h : Heap} {v : Value} {d : D} (r : Rep f v d) (hf : ∀ a o, f a = some o → h.get? a = some o) (hd : itemsD d ≠ Option.none) : SeqAt f h v d := by
  cases r with
  | list e k r => exact .list (hf _ _ e) k r
  | tup e k r => exact .tup (hf _ _ e) k r
  | _ => exact absurd rfl hd
theorem SlotOk.seqAt {f : Frz} {h : Heap} {v : Value} {ax : List Addr} {s : Slot} {d : D} (x : SlotOk f h X v ax s) (hf : ∀ a o, f a = some o → h.get? a = some o) (e : s.peek = some d) (hd : itemsD d ≠ Option.none) : SeqAt f h v d := by
  cases x with
  | fro r => cases e; exact r.seqAt hf hd
  | own g k r => cases e; exact .list g k r
  | _ => cases e
set_option tactic.hygienic true in
theorem item_ok {A : Around} {E : Value → Shared → Prop} {Q : Value → Shared → Prop} {s : Shared} {f : Frz} {v : Value} {d o : D} {i : Int} {t : Tok} (x : SeqAt f s.heap v d) (e : itemOf d i = some o) (h : ∀ u, Rep f u o → Q u s) :
    (s.TypeIs v "list" ∨ s.TypeIs v "tuple") ∧ wpAny (model X.prog X.w) A (getItem v (.int i t)) Q E s := by
  cases x with
  | list g k r =>
    rename_i a ws n l
    refine ⟨.inl ⟨_, g, rfl⟩, ?_⟩
    have hn := r.length
    simp only [Array.length_toList] at hn
    have hl : s.heap.IsList a ws := ⟨_, g, rfl, _, rfl⟩
    unfold lim at k
    simp only [itemOf, place] at e
    by_cases h0 : 0 ≤ i
    · simp only [h0, if_true] at e
      by_cases h1 : i < l.length
      · simp only [h1, if_true] at e
        obtain ⟨u, e1, r1⟩ := r.get i.toNat e
        exact wpAny_getItem_list hl h0 (by (first | lia | omega)) (by simpa using e1) (h u r1)
      · simp [h1] at e
    · simp only [h0, if_false] at e
      by_cases h1 : 0 ≤ i + l.length
      · simp only [h1, if_true] at e
        obtain ⟨u, e1, r1⟩ := r.get _ e
        exact wpAny_getItem_list_neg hl (by (first | lia | omega)) (by (first | lia | omega)) (by (first | lia | omega)) (by rw [hn]; simpa using e1) (h u r1)
      · simp [h1] at e
  | tup g k r =>
    rename_i a ws n l
    refine ⟨.inr ⟨_, g, rfl⟩, ?_⟩
    have hn := r.length
    simp only [Array.length_toList] at hn
    unfold lim at k
    simp only [itemOf, place] at e
    by_cases h0 : 0 ≤ i
    · simp only [h0, if_true] at e
      by_cases h1 : i < l.length
      · simp only [h1, if_true] at e
        obtain ⟨u, e1, r1⟩ := r.get i.toNat e
        refine PySem.P.getItem_tuple g (by (first | lia | omega)) (by (first | lia | omega)) (k := i.toNat) ?_ (by simpa using e1) (h u r1)
        unfold seqIndex?
        have : ¬ i < 0 := by (first | lia | omega)
        simp [this, hn, h1, h0]
      · simp [h1] at e
    · simp only [h0, if_false] at e
      by_cases h1 : 0 ≤ i + l.length
      · simp only [h1, if_true] at e
        obtain ⟨u, e1, r1⟩ := r.get _ e
        refine PySem.P.getItem_tuple g (by (first | lia | omega)) (by (first | lia | omega)) (k := (i + l.length).toNat) ?_ (by simpa using e1) (h u r1)
        unfold seqIndex?
        have : i < 0 := by (first | lia | omega)
        simp [this, hn, h1]
        (first | lia | omega)
      · simp [h1] at e
theorem idxS_some {d e : D} {sl : Slot} (h : idxS d e = some sl) : ∃ i o, e = .int i ∧ itemOf d i = some o ∧ sl = .fro o := by
  cases e with
  | int i =>
    revert h; refine bind_er fun o e1 h => ?_
    cases h
    exact ⟨i, o, rfl, e1, rfl⟩
  | _ => cases h
theorem itemOf_seq {d o : D} {i : Int} (h : itemOf d i = some o) : itemsD d ≠ none := by
  cases d <;> simp [itemOf] at h <;> simp [itemsD]
theorem rok_idx {x y : Expr} {pos : Pos} {r q : R} (hx : ROk k X x r) (hy : ROk k X y q) : ROk k X (.Subscript x y pos) (bin r q idxS) := by
  refine ROk.of ?_ rfl
  intro A P f st vs as s sl st' hA I hg E Q hQ
  revert hg; refine bind_er2 fun d st1 e1 hg => ?_
  revert hg; refine bind_er2 fun d2 st2 e2 hg => ?_
  revert hg; refine bind_er fun sl' e3 hg => ?_
  cases hg
  obtain ⟨i, o, rfl, e4, rfl⟩ := idxS_some e3
  refine wp_sub (hx.F A P f st vs as s d st1 hA I e1 E _ fun v f1 as1 s1 G1 I1 r1 S1 => ?_)
  refine hy.F A P f1 st1 vs as1 s1 (.int i) _ hA I1 e2 E _ fun u f2 as2 s2 G2 I2 r2 S2 => ?_
  cases r2
  exact item_ok ((r1.mono G2.sub).seqAt I2.frz (itemOf_seq e4)) e4 fun u r3 => hQ u f2 as2 [] s2 (G1.trans G2) I2 (.fro r3) (S1.trans S2)
set_option tactic.hygienic true in
theorem rok_idxVar {i : Nat} {x : Str} {p pos : Pos} {y : Expr} {q : R} (hX : FxOk X) (hd : (x == ("__debug__" : Str)) = false) (hi : X.names[i]? = some (some x)) (hy : ROk k X y q) : ROk k X (.Subscript (.Name x p) y pos) (idxVarR i q) := by
  refine ROk.of ?_ rfl
  intro A P f st vs as s sl st' hA I hg E Q hQ
  dsimp only at hg
  split at hg
  · rename_i hs
    obtain ⟨s0, e0, hu⟩ := isSet_some hs
    revert hg; refine bind_er2 fun d2 st2 e2 hg => ?_
    revert hg; refine bind_r3 fun s1 e3 d e4 o' e5 hg => ?_
    cases hg
    obtain ⟨j, o, rfl, e6, rfl⟩ := idxS_some e5
    refine wp_sub (wp_var hX hd I hi e0 hu ?_)
    refine hy.F A P f st vs as s (.int j) _ hA I e2 E _ fun u f2 as2 s2 G2 I2 r2 S2 => ?_
    cases r2
    exact item_ok ((I2.slot i s1 e3).seqAt I2.frz e4 (itemOf_seq e6)) e6 fun u r3 => hQ u f2 as2 [] s2 G2 I2 (.fro r3) S2
  · cases hg
end
end Mini
end
section
set_option autoImplicit false
set_option linter.unusedVariables false
set_option linter.unusedSimpArgs false
namespace Mini
set_option tactic.hygienic false
open PySem PySem.Calls PyProof.Rows
section
variable {k : Nat} {X : Fx} {g : Glb} {c : Cx} {mg mb : Str → Option Value}
noncomputable def OOk (k : Nat) (X : Fx) (lo : Option Expr) (g : OR) : Prop :=
  ∀ (A : Around) (P f : Frz) (st : St) (vs : Nat → Value) (as : Nat → List Addr) (s : Shared) (o : Option Int) (st' : St), AOk k A → Inv X P f st vs as s.heap → g st = some (o, st') →
    ∀ (E : Value → Shared → Prop) (Q : Value → Shared → Prop),
      (∀ v f' as' s', Grow P f f' → Inv X P f' st' vs as' s'.heap → IsPart v o → Same s s' → Q v s') → wpAny (model X.prog X.w) A (evalPart lo X.env) Q E s
theorem ook_none : OOk k X none noneO := by
  intro A P f st vs as s o st' hA I hg E Q hQ
  cases hg
  exact wpAny_pure (hQ _ f as s (.refl ..) I .none (.refl s))
theorem ook_some {e : Expr} {r : R} (h : ROk k X e r) : OOk k X (some e) (someO r) := by
  intro A P f st vs as s o st' hA I hg E Q hQ
  revert hg; refine bind_er2 fun d st1 e1 hg => ?_
  revert hg; refine bind_er fun i e2 hg => ?_
  cases hg
  cases d <;> cases e2
  refine h.F A P f st vs as s _ _ hA I e1 E Q fun v f1 as1 s1 G1 I1 r1 S1 => ?_
  cases r1
  exact hQ _ f1 as1 s1 G1 I1 (.int _ _) S1
theorem clip_eq (n : Nat) (i : Int) : clip n i = clipAt n i := rfl
theorem cut_rep {f : Frz} {ws : Array Value} {l : List D} (r : RepL f ws.toList l) (lo hi : Option Int) : RepL f (slicePick ws lo hi none).toList (cut l lo hi) := by
  have hn := r.length
  simp only [Array.length_toList] at hn
  rw [slicePick_plain]
  unfold cut
  rw [hn]
  exact (r.drop _).take _
theorem cut_len (l : List D) (lo hi : Option Int) (h : l.length ≤ lim) : (cut l lo hi).length ≤ lim := by
  unfold cut
  refine Nat.le_trans (List.length_take_le ..) ?_
  refine Nat.le_trans (Nat.sub_le _ _) ?_
  cases hi with
  | none => exact h
  | some i =>
    refine Nat.le_trans ?_ h
    simp only [Option.elim, clip]
    omega
theorem SeqAt.list_inv {f : Frz} {h : Heap} {v : Value} {l : List D} (x : SeqAt f h v (.list l)) : ∃ a ws n, v = .ref a ∧ h.get? a = some (seqObj "list" ws n) ∧ l.length ≤ lim ∧ RepL f ws.toList l := by
  cases x with
  | list g k r => exact ⟨_, _, _, rfl, g, k, r⟩
theorem slice_ok {A : Around} {E : Value → Shared → Prop} {Q : Value → Shared → Prop} {s s0 : Shared} {P f : Frz} {st : St} {vs : Nat → Value} {as : Nat → List Addr} {v : Value} {xs : List D} {lo hi : Option Int} {vl vu : Value}
    (I : Inv X P f st vs as s.heap) (x : SeqAt f s.heap v (.list xs)) (pl : IsPart vl lo) (pu : IsPart vu hi) (S : Same s0 s)
    (hQ : ∀ v' ar s', Inv X P f st vs as s'.heap → Res X P f as s'.heap v' (.own (cut xs lo hi)) ar → Same s0 s' → Q v' s') :
    (({ s with heap := s.heap.push { cls := .type "slice", data := .fields #[vl, vu, .none] } } : Shared).TypeIs v "list" ∨ ({ s with heap := s.heap.push { cls := .type "slice", data := .fields #[vl, vu, .none] } } : Shared).TypeIs v "tuple") ∧
    wpAny (model X.prog X.w) A (getItem v (.ref s.heap.objs.size)) Q E { s with heap := s.heap.push { cls := .type "slice", data := .fields #[vl, vu, .none] } } := by
  obtain ⟨a, ws, n, rfl, g, hk, r⟩ := x.list_inv
  have keep : ∀ a o, s.heap.get? a = some o → (s.heap.push { cls := .type "slice", data := .fields #[vl, vu, .none] }).get? a = some o := fun a o e => Heap.get?_push_of_some _ e
  refine ⟨.inl ⟨_, keep _ _ g, rfl⟩, ?_⟩
  have I1 := I.ext keep
  have I2 := I1.push (ws := slicePick ws lo hi none) (cut_len xs lo hi hk) (cut_rep r lo hi)
  refine wpAny_getItem_list_slice (l := a) (items := ws) ⟨_, keep _ _ g, rfl, _, rfl⟩ (.new ..) pl pu .none (by simp) (hQ _ _ _ I2.1 I2.2 (S.trans ⟨rfl, rfl, rfl⟩)) ?_
  have hn := r.length
  simp only [Array.length_toList] at hn
  rw [hn, sizeLine_eq]; unfold lim at hk; omega
theorem rok_slice {x : Expr} {lo hi : Option Expr} {p pos : Pos} {r : R} {l h : OR} (hx : ROk k X x r) (hl : OOk k X lo l) (hh : OOk k X hi h) : ROk k X (.Subscript x (.Slice lo hi none p) pos) (sliceR r l h) := by
  refine ROk.of ?_ rfl
  intro A P f st vs as s sl st' hA I hg E Q hQ
  revert hg; refine bind_er2 fun d st1 e1 hg => ?_
  revert hg; refine bind_er2 fun o1 st2 e2 hg => ?_
  revert hg; refine bind_er2 fun o2 st3 e3 hg => ?_
  revert hg; refine bind_er fun xs e4 hg => ?_
  cases hg
  cases d <;> cases e4
  refine wp_sub (hx.F A P f st vs as s _ st1 hA I e1 E _ fun v f1 as1 s1 G1 I1 r1 S1 => ?_)
  refine wpAny_Slice (hl A P f1 st1 vs as1 s1 o1 st2 hA I1 e2 E _ fun vl f2 as2 s2 G2 I2 p2 S2 => ?_)
  refine hh A P f2 st2 vs as2 s2 o2 _ hA I2 e3 E _ fun vu f3 as3 s3 G3 I3 p3 S3 => ?_
  refine wpAny_pure ?_
  exact slice_ok I3 (((r1.mono G2.sub).mono G3.sub).seqAt I3.frz (by simp [itemsD])) p2 p3 ((S1.trans S2).trans S3) fun v' ar s' I' R' S' => hQ v' f3 as3 ar s' ((G1.trans G2).trans G3) I' R' S'
set_option tactic.hygienic true in
theorem rok_sliceVar {i : Nat} {x : Str} {p' p pos : Pos} {lo hi : Option Expr} {l h : OR} (hX : FxOk X) (hd : (x == ("__debug__" : Str)) = false) (hi' : X.names[i]? = some (some x)) (hl : OOk k X lo l) (hh : OOk k X hi h) : ROk k X (.Subscript (.Name x p') (.Slice lo hi none p) pos) (sliceVarR i l h) := by
  refine ROk.of ?_ rfl
  intro A P f st vs as s sl st' hA I hg E Q hQ
  dsimp only at hg
  split at hg
  · rename_i hs
    obtain ⟨s0, e0, hu⟩ := isSet_some hs
    revert hg; refine bind_er2 fun o1 st2 e2 hg => ?_
    revert hg; refine bind_er2 fun o2 st3 e3 hg => ?_
    revert hg; refine bind_r3 fun s1 e4 d e5 xs e6 hg => ?_
    cases hg
    cases d <;> cases e6
    refine wp_sub (wp_var hX hd I hi' e0 hu ?_)
    refine wpAny_Slice (hl A P f st vs as s o1 st2 hA I e2 E _ fun vl f2 as2 s2 G2 I2 p2 S2 => ?_)
    refine hh A P f2 st2 vs as2 s2 o2 _ hA I2 e3 E _ fun vu f3 as3 s3 G3 I3 p3 S3 => ?_
    refine wpAny_pure ?_
    exact slice_ok I3 ((I3.slot i s1 e4).seqAt I3.frz e5 (by simp [itemsD])) p2 p3 (S2.trans S3) fun v' ar s' I' R' S' => hQ v' f3 as3 ar s' (G2.trans G3) I' R' S'
  · cases hg
theorem rok_rev {x st' : Expr} {p pos : Pos} {r : R} (hx : ROk k X x r) (hs : isMinus1 st' = true) : ROk k X (.Subscript x (.Slice none none (some st') p) pos) (un r revD) := by
  refine ROk.of ?_ rfl
  intro A P f st vs as s sl st1 hA I hg E Q hQ
  revert hg; refine bind_er2 fun d st2 e1 hg => ?_
  revert hg; refine bind_er fun sl' e2 hg => ?_
  cases hg
  revert e2; refine bind_er fun xs e3 e2 => ?_
  cases e2
  cases d <;> cases (e3)
  obtain ⟨q, p1, p2, rfl⟩ := minus1 hs
  refine wp_sub (hx.F A P f st vs as s _ _ hA I e1 E _ fun v f1 as1 s1 G1 I1 r1 S1 => ?_)
  refine wpAny_Slice (wpAny_pure (wpAny_pure (wpAny_UnaryOp (wpAny_Constant_int (PySem.P.neg_int ?_)))))
  obtain ⟨a, ws, n, rfl, g, hk, r⟩ := (r1.seqAt I1.frz (by simp [itemsD])).list_inv
  have keep : ∀ a o, s1.heap.get? a = some o → (s1.heap.push { cls := .type "slice", data := .fields #[.none, .none, .int (-1) (s1.toks + 1)] }).get? a = some o := fun a o e => Heap.get?_push_of_some _ e
  refine ⟨.inl ⟨_, keep _ _ g, rfl⟩, ?_⟩
  have I2 := (I1.ext keep).push (ws := slicePick ws none none (some (-1))) (l := xs.reverse) (by simpa using hk) (by rw [PySem.W.krv_pick]; exact r.reverse)
  refine wpAny_getItem_list_slice (l := a) (items := ws) ⟨_, keep _ _ g, rfl, _, rfl⟩ (.new ..) .none .none (.int (-1) _) (by simp) (hQ _ f1 as1 _ _ G1 I2.1 I2.2 (S1.trans ⟨rfl, rfl, rfl⟩)) ?_
  have hn := r.length
  simp only [Array.length_toList] at hn
  rw [hn, sizeLine_eq]; unfold lim at hk; omega
theorem wp_call1 {A : Around} {E : Value → Shared → Prop} {Q : Value → Shared → Prop} {s : Shared} {P f : Frz} {st : St} {vs : Nat → Value} {as : Nat → List Addr} {fn : Str} {p pos : Pos} {x : Expr} {id : String}
    (G : Gnd g X.hb mg mb) (hE : EnvOk X) (hC : CxOk c X) (I : Inv X P f st vs as s.heap) (hx : c.isG fn = true) (hp : (fn, .builtin id) ∈ bootV) (hs : notStar x = true)
    (h : wpAny (model X.prog X.w) A (eval x X.env) (fun v s₁ => wpAny (model X.prog X.w) A (call (.builtin id) [v]) Q E s₁) E s) : wpAny (model X.prog X.w) A (eval (.Call (.Name fn p) [x] [] pos) X.env) Q E s := by
  refine wpAny_Call_NameR (wp_builtin G hE hC I hx hp ?_)
  have ht : backTo pos (starEach [x] X.env) = [(false, eval x X.env)] := by rw [starEach_cons hs]; rfl
  rw [ht]
  exact callWith_builtin rfl (evalArgs_plain (spliced_cons (wpAny_mono h (fun v s₁ h₁ => spliced_nil h₁) fun _ _ x => x)))
theorem wp_call2 {A : Around} {E : Value → Shared → Prop} {Q : Value → Shared → Prop} {s : Shared} {P f : Frz} {st : St} {vs : Nat → Value} {as : Nat → List Addr} {fn : Str} {p pos : Pos} {x y : Expr} {id : String}
    (G : Gnd g X.hb mg mb) (hE : EnvOk X) (hC : CxOk c X) (I : Inv X P f st vs as s.heap) (hx : c.isG fn = true) (hp : (fn, .builtin id) ∈ bootV) (hs : notStar x = true) (hs' : notStar y = true)
    (h : wpAny (model X.prog X.w) A (eval x X.env) (fun v s₁ => wpAny (model X.prog X.w) A (eval y X.env) (fun u s₂ => wpAny (model X.prog X.w) A (call (.builtin id) [v, u]) Q E s₂) E s₁) E s) : wpAny (model X.prog X.w) A (eval (.Call (.Name fn p) [x, y] [] pos) X.env) Q E s := by
  refine wpAny_Call_NameR (wp_builtin G hE hC I hx hp ?_)
  have ht : backTo pos (starEach [x, y] X.env) = [(false, eval x X.env), (false, eval y X.env)] := by rw [starEach_cons hs, starEach_cons hs']; rfl
  rw [ht]
  exact callWith_builtin rfl (evalArgs_plain (spliced_cons (wpAny_mono h (fun v s₁ h₁ => spliced_cons (wpAny_mono h₁ (fun u s₂ h₂ => spliced_nil h₂) fun _ _ x => x)) fun _ _ x => x)))
theorem len_ok {A : Around} {E : Value → Shared → Prop} {Q : Value → Shared → Prop} {s : Shared} {P f : Frz} {st : St} {vs : Nat → Value} {as : Nat → List Addr} {v : Value} {ax : List Addr} {sl : Slot} {n : Nat}
    (I : Inv X P f st vs as s.heap) (x : SlotOk f s.heap X v ax sl) (e : lenOf sl = some n) (hQ : ∀ t s', Inv X P f st vs as s'.heap → Same s s' → Q (.int n t) s') : wpAny (model X.prog X.w) A (call (.builtin "len") [v]) Q E s := by
  have fin : ∀ t tk, Q (.int n t) { s with toks := tk } := fun t tk => hQ t { s with toks := tk } I ⟨rfl, rfl, rfl⟩
  cases x with
  | fro r =>
    cases r with
    | list g k r =>
      cases e
      have hn := r.length
      simp only [Array.length_toList] at hn
      unfold lim at k
      refine Calls.call_len_list (items := _) ⟨_, I.frz _ _ g, rfl, _, rfl⟩ (by omega) ?_
      rw [hn]; exact fin _ _
    | tup g k r =>
      cases e
      have hn := r.length
      simp only [Array.length_toList] at hn
      unfold lim at k
      refine PySem.P.len_tuple (I.frz _ _ g) (by omega) ?_
      rw [hn]; exact fin _ _
    | _ => cases e
  | own g k r =>
    cases e
    have hn := r.length
    simp only [Array.length_toList] at hn
    unfold lim at k
    refine Calls.call_len_list (items := _) ⟨_, g, rfl, _, rfl⟩ (by omega) ?_
    rw [hn]; exact fin _ _
  | dct hd hl hs =>
    simp only [lenOf, List.length_map] at e
    cases e
    unfold lim at hl
    exact call_len_dict hs hd (by omega) (fin _ _)
  | _ => cases e
theorem rok_len {fn : Str} {p pos : Pos} {x : Expr} {r : R} (G : Gnd g X.hb mg mb) (hE : EnvOk X) (hC : CxOk c X) (hx : c.isG fn = true) (hf : fn = ("len" : Str)) (hs : notStar x = true) (h : ROk k X x r) : ROk k X (.Call (.Name fn p) [x] [] pos) (lenR r) := by
  refine ROk.of ?_ rfl
  intro A P f st vs as s sl st' hA I hg E Q hQ
  revert hg; refine bind_er2 fun s1 st1 e1 hg => ?_
  revert hg; refine bind_er fun n e2 hg => ?_
  cases hg
  subst hf
  refine wp_call1 G hE hC I hx (id := "len") (by simp [bootV]) hs (h.bor A P f st vs as s s1 _ hA I e1 E _ fun v f1 as1 ax s2 G1 I1 ok S1 => ?_)
  exact len_ok I1 ok e2 fun t s3 I3 S3 => hQ _ f1 as1 [] s3 G1 I3 (.fro (.int _ t)) (S1.trans S3)
theorem rok_abs {fn : Str} {p pos : Pos} {x : Expr} {r : R} (G : Gnd g X.hb mg mb) (hE : EnvOk X) (hC : CxOk c X) (hx : c.isG fn = true) (hf : fn = ("abs" : Str)) (hs : notStar x = true) (h : ROk k X x r) : ROk k X (.Call (.Name fn p) [x] [] pos) (un r absD) := by
  refine ROk.of ?_ rfl
  intro A P f st vs as s sl st' hA I hg E Q hQ
  revert hg; refine bind_er2 fun d st1 e1 hg => ?_
  revert hg; refine bind_er fun sl' e2 hg => ?_
  cases hg
  cases d with
  | int i =>
    cases e2
    subst hf
    refine wp_call1 G hE hC I hx (id := "abs") (by simp [bootV]) hs (h.F A P f st vs as s _ _ hA I e1 E _ fun v f1 as1 s1 G1 I1 r1 S1 => ?_)
    cases r1
    refine call_abs_int fun u tk => ?_
    have : (if i < 0 then -i else i) = (i.natAbs : Int) := by split <;> omega
    rw [this]
    exact hQ _ f1 as1 [] _ G1 I1 (.fro (.int _ u)) (S1.trans ⟨rfl, rfl, rfl⟩)
  | _ => cases e2
theorem rok_min {fn : Str} {p pos : Pos} {x y : Expr} {r q : R} (G : Gnd g X.hb mg mb) (hE : EnvOk X) (hC : CxOk c X) (hx : c.isG fn = true) (hf : fn = ("min" : Str)) (hs : notStar x = true) (hs' : notStar y = true) (h : ROk k X x r) (h' : ROk k X y q) :
    ROk k X (.Call (.Name fn p) [x, y] [] pos) (bin r q minD) := by
  refine ROk.of ?_ rfl
  intro A P f st vs as s sl st' hA I hg E Q hQ
  revert hg; refine bind_er2 fun d st1 e1 hg => ?_
  revert hg; refine bind_er2 fun d2 st2 e2 hg => ?_
  revert hg; refine bind_er fun sl' e3 hg => ?_
  cases hg
  subst hf
  refine wp_call2 G hE hC I hx (id := "min") (by simp [bootV]) hs hs' (h.F A P f st vs as s d _ hA I e1 E _ fun v f1 as1 s1 G1 I1 r1 S1 => ?_)
  refine h'.F A P f1 st1 vs as1 s1 d2 _ hA I1 e2 E _ fun u f2 as2 s2 G2 I2 r2 S2 => ?_
  cases d with
  | int a =>
    cases d2 with
    | int b =>
      cases e3
      cases r1
      cases r2
      refine min_two_ints hA.hd fun h'' tk keep => ?_
      by_cases hb : b < a
      · rw [if_pos hb]
        exact hQ _ f2 as2 [] _ (G1.trans G2) (I2.ext keep) (by rw [if_pos hb]; exact .fro (.int _ _)) ((S1.trans S2).trans ⟨rfl, rfl, rfl⟩)
      · rw [if_neg hb]
        exact hQ _ f2 as2 [] _ (G1.trans G2) (I2.ext keep) (by rw [if_neg hb]; exact .fro (.int _ _)) ((S1.trans S2).trans ⟨rfl, rfl, rfl⟩)
    | _ => cases e3
  | _ => cases e3
theorem rok_dict {pos : Pos} (hE : EnvOk X) : ROk k X (.Dict [] [] pos) (pureR (.dct [])) := by
  have hv : ValOk k X (.Dict [] [] pos) (pureR (.dct [])).val := by
    intro A P f st vs as s sl st' hA I hg E Q hQ
    cases hg
    rw [eval_Dict_empty]
    refine wpAny_bind (wpAny_standAt ?_)
    unfold newDict
    refine wpAny_bind (wpAny_alloc (wpAny_pure ?_))
    have keep : ∀ a o, s.heap.get? a = some o → (s.heap.push { cls := .type "dict", data := .dict #[] }).get? a = some o := fun a o e => Heap.get?_push_of_some _ e
    have hsz : (sysModules : Addr) < s.heap.objs.size := by
      obtain ⟨a0, o, hle, e⟩ := hE.sys
      refine Nat.lt_of_le_of_lt hle ?_
      exact Heap.lt_size (I.keepB _ _ e)
    refine hQ _ f as [s.heap.objs.size] _ (.refl ..) (I.ext keep) ⟨.dct (kvs := []) (.new s.heap) (Nat.zero_le _) ?_, fun a q => ?_, by simp⟩ ⟨rfl, rfl, rfl⟩
    · have : s.heap.objs.size ≠ sysModules := Nat.ne_of_gt hsz
      simpa using this
    · simp at q; subst q; exact I.fresh (Nat.le_refl _)
  exact ROk.of hv rfl
end
end Mini
end
section
set_option autoImplicit false
set_option linter.unusedVariables false
set_option linter.unusedSimpArgs false
namespace Mini
set_option tactic.hygienic false
open PySem PySem.Calls PyProof.Rows
section
variable {k : Nat} {X : Fx} {g : Glb} {c : Cx} {mg mb : Str → Option Value}
theorem lt_of_get {α : Type} {l : List α} {i : Nat} {a : α} (h : l[i]? = some a) : i < l.length := by
  rcases Nat.lt_or_ge i l.length with q | q
  · exact q
  · rw [List.getElem?_eq_none q] at h; cases h
theorem Inv.upd {P f : Frz} {st : St} {vs : Nat → Value} {as : Nat → List Addr} {h h' : Heap} (I : Inv X P f st vs as h) {i : Nat} {s0 s' : Slot} {ar : List Addr} (e : st.v[i]? = some s0) (hu : s0 ≠ .unset) (hu' : s' ≠ .unset)
    (k : ∀ b o, b ∉ as i → h.get? b = some o → h'.get? b = some o) (ok : SlotOk f h' X (vs i) ar s')
    (fr : ∀ a ∈ ar, a ∈ as i ∨ (f a = none ∧ P a = none ∧ a ≠ X.env.locals ∧ X.dk ≠ some a ∧ ∀ j, a ∉ as j)) (nd : ar.Nodup) : Inv X P f { st with v := st.v.set i s' } vs (updF as i ar) h' := by
  have hi := lt_of_get e
  have nf : ∀ b, f b ≠ none → b ∉ as i := fun b q z => q (I.asF i b z).1
  have nP : ∀ b, P b ≠ none → b ∉ as i := fun b q z => q (I.asF i b z).2.1
  have fr' : ∀ a ∈ ar, f a = none ∧ P a = none ∧ a ≠ X.env.locals ∧ X.dk ≠ some a ∧ ∀ j, j ≠ i → a ∉ as j := fun a q => by
    rcases fr a q with z | z
    · obtain ⟨h1, h2, h3, h4⟩ := I.asF i a z
      exact ⟨h1, h2, h3, h4, fun j hj => I.asD i j a (Ne.symm hj) z⟩
    · exact ⟨z.1, z.2.1, z.2.2.1, z.2.2.2.1, fun j _ => z.2.2.2.2 j⟩
  exact {
    frz := fun a o q => k a o (nf a (by rw [q]; simp)) (I.frz a o q)
    prs := fun a o q => k a o (nP a (by rw [q]; simp)) (I.prs a o q)
    base := I.base
    len := by simpa using I.len
    ns := by
      obtain ⟨m, n, b⟩ := I.ns
      refine ⟨m, ?_, fun j s x e1 e2 e3 => ?_⟩
      · obtain ⟨o, es, ep, q, r⟩ := n
        exact ⟨o, es, ep, k _ _ (fun z => (I.asF i _ z).2.2.1 rfl) q, r⟩
      · by_cases hj : i = j
        · subst hj; exact b i s0 x e e2 hu
        · rw [List.getElem?_set_ne hj] at e1; exact b j s x e1 e2 e3
    slot := fun j s q => by
      by_cases hj : i = j
      · subst hj
        rw [List.getElem?_set_self hi] at q; cases q
        rw [updF_self]; exact ok
      · rw [List.getElem?_set_ne hj] at q; rw [updF_ne as _ (Ne.symm hj)]
        exact (I.slot j s q).mono (fun _ _ e => e) fun a ha o e => k a o (I.asD j i a (Ne.symm hj) ha) e
    cel := fun j x e1 e2 e3 => by
      by_cases hj : i = j
      · subst hj
        rw [List.getElem?_set_self hi] at e1
        exact absurd (Option.some.inj e1) hu'
      · rw [List.getElem?_set_ne hj] at e1; rw [updF_ne as _ (Ne.symm hj)]
        obtain ⟨cc, o, h1, h2, h3, h4⟩ := I.cel j x e1 e2 e3
        exact ⟨cc, o, h1, k _ _ (I.asD j i cc (Ne.symm hj) (by rw [h4]; simp)) h2, h3, h4⟩
    out := fun j q => by
      have hj : j ≠ i := fun z => by subst z; simp at q; (first | lia | omega)
      rw [updF_ne as _ hj]; exact I.out j (by simpa using q)
    deck := fun a q => by
      obtain ⟨ws, n, h1, h2⟩ := I.deck a q
      exact ⟨ws, n, k _ _ (fun z => (I.asF i a z).2.2.2 q) h1, h2⟩
    locF := I.locF
    dkF := I.dkF
    asF := fun j a q => by
      by_cases hj : j = i
      · subst hj; rw [updF_self] at q
        obtain ⟨h1, h2, h3, h4, _⟩ := fr' a q
        exact ⟨h1, h2, h3, h4⟩
      · rw [updF_ne as _ hj] at q; exact I.asF j a q
    asN := fun j => by
      by_cases hj : j = i
      · subst hj; rw [updF_self]; exact nd
      · rw [updF_ne as _ hj]; exact I.asN j
    asD := fun j l a hjl q q' => by
      by_cases hj : j = i
      · subst hj; rw [updF_self] at q
        rw [updF_ne as _ (Ne.symm hjl)] at q'
        exact (fr' a q).2.2.2.2 l (Ne.symm hjl) q'
      · rw [updF_ne as _ hj] at q
        by_cases hl : l = i
        · subst hl; rw [updF_self] at q'
          exact (fr' a q').2.2.2.2 j hj q
        · rw [updF_ne as _ hl] at q'; exact I.asD j l a hjl q q' }
theorem Inv.store {P f : Frz} {st : St} {vs : Nat → Value} {as : Nat → List Addr} {h h' : Heap} (I : Inv X P f st vs as h) (hX : FxOk X) {i : Nat} {x : Str} {v : Value} {s' : Slot} {ar : List Addr} (hi : i < st.v.length) (hx : X.names[i]? = some (some x))
    (hk : X.env.kindOf x = some .local) (R : Res X P f as h v s' ar) (hu' : s' ≠ .unset) (m : Str → Option Value) (hm : h.Ns X.env.locals m) (hn : h'.Ns X.env.locals fun y => if y = x then some v else m y) (hs : Heap.SameBut X.env.locals h h') :
    Inv X P f { st with v := st.v.set i s' } (updF vs i v) (updF as i ar) h' := by
  have kp : ∀ b o, b ≠ X.env.locals → h.get? b = some o → h'.get? b = some o := fun b o q e => (hs.2 b q).trans e
  obtain ⟨m0, n0, b0⟩ := I.ns
  have em : m0 = m := by
    obtain ⟨o, es, ep, q, q2, _, q3⟩ := n0
    obtain ⟨o', es', ep', q', q2', _, q3'⟩ := hm
    rw [q] at q'; cases q'
    rw [q2] at q2'; cases q2'
    funext y; rw [← q3 y, q3' y]
  subst em
  exact {
    frz := fun a o q => kp a o (fun z => by rw [z, I.locF.1] at q; cases q) (I.frz a o q)
    prs := fun a o q => kp a o (fun z => by rw [z, I.locF.2] at q; cases q) (I.prs a o q)
    base := I.base
    len := by simpa using I.len
    ns := by
      refine ⟨_, hn, fun j s y e1 e2 e3 => ?_⟩
      by_cases hj : i = j
      · subst hj
        rw [hx] at e2; cases e2
        rw [updF_self]
        exact .inl ⟨hk, by simp⟩
      · rw [List.getElem?_set_ne hj] at e1
        rw [updF_ne vs _ (Ne.symm hj)]
        have hyx : y ≠ x := fun z => by
          subst z
          exact hj (hX.nodup i j y hx e2)
        rcases b0 j s y e1 e2 e3 with ⟨q1, q2⟩ | q
        · exact .inl ⟨q1, by simp [hyx, q2]⟩
        · exact .inr q
    slot := fun j s q => by
      by_cases hj : i = j
      · subst hj
        rw [List.getElem?_set_self hi] at q; cases q
        rw [updF_self, updF_self]
        exact R.ok.mono (fun _ _ e => e) fun a ha o e => kp a o (R.fr a ha).2.2.1 e
      · rw [List.getElem?_set_ne hj] at q; rw [updF_ne as _ (Ne.symm hj), updF_ne vs _ (Ne.symm hj)]
        exact (I.slot j s q).mono (fun _ _ e => e) fun a ha o e => kp a o (I.asF j a ha).2.2.1 e
    cel := fun j y e1 e2 e3 => by
      by_cases hj : i = j
      · subst hj
        rw [List.getElem?_set_self hi] at e1
        exact absurd (Option.some.inj e1) hu'
      · rw [List.getElem?_set_ne hj] at e1; rw [updF_ne as _ (Ne.symm hj)]
        obtain ⟨cc, o, h1, h2, h3, h4⟩ := I.cel j y e1 e2 e3
        exact ⟨cc, o, h1, kp _ _ (I.asF j cc (by rw [h4]; simp)).2.2.1 h2, h3, h4⟩
    out := fun j q => by
      have hj : j ≠ i := fun z => by subst z; simp at q; (first | lia | omega)
      rw [updF_ne as _ hj]; exact I.out j (by simpa using q)
    deck := fun a q => by
      obtain ⟨ws, n, h1, h2⟩ := I.deck a q
      exact ⟨ws, n, kp _ _ (I.dkF a q).2.2 h1, h2⟩
    locF := I.locF
    dkF := I.dkF
    asF := fun j a q => by
      by_cases hj : j = i
      · subst hj; rw [updF_self] at q
        obtain ⟨h1, h2, h3, h4, _⟩ := R.fr a q
        exact ⟨h1, h2, h3, h4⟩
      · rw [updF_ne as _ hj] at q; exact I.asF j a q
    asN := fun j => by
      by_cases hj : j = i
      · subst hj; rw [updF_self]; exact R.nd
      · rw [updF_ne as _ hj]; exact I.asN j
    asD := fun j l a hjl q q' => by
      by_cases hj : j = i
      · subst hj; rw [updF_self] at q
        rw [updF_ne as _ (Ne.symm hjl)] at q'
        exact (R.fr a q).2.2.2.2 l q'
      · rw [updF_ne as _ hj] at q
        by_cases hl : l = i
        · subst hl; rw [updF_self] at q'
          exact (R.fr a q').2.2.2.2 j q
        · rw [updF_ne as _ hl] at q'; exact I.asD j l a hjl q q' }
theorem wp_store {A : Around} {E : Value → Shared → Prop} {Q : Unit → Shared → Prop} {s : Shared} {P f : Frz} {st : St} {vs : Nat → Value} {as : Nat → List Addr} {i : Nat} {x : Str} {v : Value} {s' : Slot} {ar : List Addr} (hX : FxOk X)
    (I : Inv X P f st vs as s.heap) (hi : i < st.v.length) (hx : X.names[i]? = some (some x)) (hk : X.env.kindOf x = some .local) (R : Res X P f as s.heap v s' ar) (hu' : s' ≠ .unset)
    (hQ : ∀ s₁, Inv X P f { st with v := st.v.set i s' } (updF vs i v) (updF as i ar) s₁.heap → Same s s₁ → Q () s₁) : wpAny (model X.prog X.w) A (storeName X.env x v) Q E s := by
  obtain ⟨m, n, b⟩ := id I.ns
  refine wpAny_storeName_local hk n (fun h' hn hs => hQ _ (I.store hX hi hx hk R hu' m n hn hs) ⟨rfl, rfl, rfl⟩) ?_
  rw [hX.kind]; rfl
theorem typeIs_list {s : Shared} {a : Addr} {ws : Array Value} {n : Nat} (e : s.heap.get? a = some (seqObj "list" ws n)) : s.TypeIs (.ref a) "list" ∧ (∀ b, (Value.ref a) = .ref b → ∃ ob, s.heap.get? b = some ob ∧ ob.dict = none) :=
  ⟨⟨_, e, rfl⟩, fun b q => by cases q; exact ⟨_, e, rfl⟩⟩
theorem Inv.mutAt {P f : Frz} {st : St} {vs : Nat → Value} {as : Nat → List Addr} {h : Heap} (I : Inv X P f st vs as h) {i : Nat} {l : List D} (e : st.v[i]? = some (.own l)) :
    ∃ a ws n, vs i = .ref a ∧ as i = [a] ∧ h.get? a = some (seqObj "list" ws n) ∧ l.length ≤ lim ∧ RepL f ws.toList l := by
  exact (I.slot i _ e).is _ fun a ws n hv ha g k r => ⟨a, ws, n, hv, ha, g, k, r⟩
theorem Inv.chg {P f : Frz} {st : St} {vs : Nat → Value} {as : Nat → List Addr} {h : Heap} (I : Inv X P f st vs as h) {i : Nat} {l l' : List D} {a : Addr} {ws : Array Value} {n : Nat} (e : st.v[i]? = some (.own l)) (hv : vs i = .ref a) (ha : as i = [a])
    (g : h.get? a = some (seqObj "list" ws n)) (φ : Array Value → Array Value) (hl : l'.length ≤ lim) (r : RepL f (φ ws).toList l') : Inv X P f { st with v := st.v.set i (.own l') } vs (updF as i [a]) (h.update a (Obj.mapSeq φ)) := by
  refine I.upd e (by simp) (by simp) (fun b o q e => (Heap.get?_update_other h _ (by rw [ha] at q; simpa [eq_comm] using q)).trans e) ?_ (fun b q => .inl (by rw [ha]; exact q)) (by simp)
  rw [hv]
  exact .own (IsL.update g φ) hl r
theorem eraseIdx_last (ws : Array Value) (h : 0 < ws.size) : (ws.eraseIdxIfInBounds (ws.size - 1)).toList = ws.toList.dropLast := by
  obtain ⟨l⟩ := ws
  simp only [List.size_toArray] at h ⊢
  rw [Array.eraseIdxIfInBounds, dif_pos (by simp; (first | lia | omega))]
  simp [List.dropLast_eq_take, List.eraseIdx_eq_take_drop_succ]
  (first | lia | omega)
theorem RepL.dropLast {f : Frz} {vs : List Value} {ds : List D} (r : RepL f vs ds) : RepL f vs.dropLast ds.dropLast := by
  rw [List.dropLast_eq_take, List.dropLast_eq_take, r.length]
  exact r.take _
set_option tactic.hygienic true in
theorem rok_pop {i : Nat} {x m : Str} {p1 apos pos : Pos} (hX : FxOk X) (hd : (x == ("__debug__" : Str)) = false) (hi : X.names[i]? = some (some x)) (hm : m = ("pop" : Str)) (hline : (apos.endLine == pos.line) = true) :
    ROk k X (.Call (.Attribute (.Name x p1) m apos) [] [] pos) (popR i) := by
  refine ROk.of ?_ rfl
  intro A P f st vs as s sl st' hA I hg E Q hQ
  dsimp only at hg
  split at hg
  · rename_i l e
    split at hg
    · rename_i d e2
      cases hg
      subst hm
      refine wpAny_Call_method rfl rfl hline F.plainAttrs_list F.slot_list_pop F.type_list_pop (wp_var hX hd I hi e (by simp) ?_)
      obtain ⟨a, ws, n, hv, ha, g, hk, r⟩ := I.mutAt e
      rw [hv]
      obtain ⟨h1, h2⟩ := typeIs_list g
      refine ⟨h1, h2, ?_⟩
      have hn := r.length
      simp only [Array.length_toList] at hn
      have hne : 0 < l.length := by
        cases l with
        | nil => cases e2
        | cons _ _ => simp
      have e3 : l[l.length - 1]? = some d := by rw [← List.getLast?_eq_getElem?]; exact e2
      obtain ⟨y, e4, r4⟩ := r.get _ e3
      refine PySem.P.pop_list g (y := y) (by rw [hn]; simpa using e4) ?_ ?_
      · have I2 := I.chg (l' := l.dropLast) e hv ha g (fun xs => xs.eraseIdxIfInBounds (ws.size - 1)) (by simp; (first | lia | omega)) (by rw [eraseIdx_last _ (by (first | lia | omega))]; exact r.dropLast)
        exact hQ y f _ [] _ (.refl ..) I2 (.fro r4) ⟨rfl, rfl, rfl⟩
      · rw [hn, sizeLine_eq]; unfold lim at hk; (first | lia | omega)
    · cases hg
  · cases hg
end
end Mini
end
section
set_option autoImplicit false
set_option linter.unusedVariables false
set_option linter.unusedSimpArgs false
namespace Mini
set_option tactic.hygienic false
open PySem PySem.Calls PyProof.Rows
section
variable {k : Nat} {X : Fx} {g : Glb} {c : Cx} {mg mb : Str → Option Value}
theorem Inv.deckTo {P f : Frz} {st : St} {vs : Nat → Value} {as : Nat → List Addr} {h h' : Heap} (I : Inv X P f st vs as h) {a : Addr} {l : List Int} {ws : Array Value} {n : Nat} (e : X.dk = some a)
    (k : ∀ b o, b ≠ a → h.get? b = some o → h'.get? b = some o) (g : h'.get? a = some (seqObj "list" ws n)) (hI : IntsAre ws.toList l) (hl : l.length ≤ lim) : Inv X P f { st with dk := l } vs as h' where
  frz b o q := k b o (fun z => by subst z; rw [(I.dkF _ e).1] at q; cases q) (I.frz b o q)
  prs b o q := k b o (fun z => by subst z; rw [(I.dkF _ e).2.1] at q; cases q) (I.prs b o q)
  base := I.base
  len := I.len
  ns := by
    obtain ⟨m, ⟨o, es, ep, q, r⟩, b⟩ := I.ns
    exact ⟨m, ⟨o, es, ep, k _ _ (fun z => (I.dkF a e).2.2 z.symm) q, r⟩, b⟩
  slot i s q := (I.slot i s q).mono (fun _ _ e => e) fun b hb o z => k b o (fun y => by subst y; exact (I.asF i _ hb).2.2.2 e) z
  cel i x e1 e2 e3 := by
    obtain ⟨cc, o, h1, h2, h3, h4⟩ := I.cel i x e1 e2 e3
    exact ⟨cc, o, h1, k _ _ (fun y => by subst y; exact (I.asF i cc (by rw [h4]; simp)).2.2.2 e) h2, h3, h4⟩
  out := I.out
  deck b q := by rw [e] at q; cases q; exact ⟨ws, n, g, hI, hl⟩
  locF := I.locF
  dkF := I.dkF
  asF := I.asF
  asN := I.asN
  asD := I.asD
set_option tactic.hygienic true in
theorem rok_pop0 {i : Nat} {x m : Str} {p1 apos pos : Pos} {args : List Expr} (hX : FxOk X) (hd : (x == ("__debug__" : Str)) = false) (hi : X.names[i]? = some (some x)) (hm : m = ("pop" : Str)) (hz : isZero args = true) (hline : (apos.endLine == pos.line) = true) :
    ROk k X (.Call (.Attribute (.Name x p1) m apos) args [] pos) (pop0R i) := by
  refine ROk.of ?_ rfl
  intro A P f st vs as s sl st' hA I hg E Q hQ
  dsimp only at hg
  split at hg
  · rename_i e
    split at hg
    · rename_i j r e2
      cases hg
      subst hm
      obtain ⟨q, p, rfl⟩ := zero1 hz
      refine wpAny_Call_method rfl rfl hline F.plainAttrs_list F.slot_list_pop F.type_list_pop (wp_var hX hd I hi e (by simp) ?_)
      have ok := I.slot i _ e
      generalize hv : vs i = v at ok
      generalize ha : as i = ai at ok
      cases ok with
      | deck hdk =>
        rename_i a
        obtain ⟨ws, n, g, hI, hl⟩ := I.deck a hdk
        obtain ⟨h1, h2⟩ := typeIs_list g
        refine ⟨h1, h2, ?_⟩
        rw [e2] at hI hl
        have hw : ∃ t tl, ws.toList = .int j t :: tl ∧ IntsAre tl r := by
          generalize ws.toList = wl at hI
          cases hI with
          | cons _ t z => exact ⟨t, _, rfl, z⟩
        obtain ⟨t, tl, hw, hI'⟩ := hw
        have hsz : ws.size = r.length + 1 := by
          have := hI'.length
          have h3 : ws.toList.length = tl.length + 1 := by rw [hw]; rfl
          simp only [Array.length_toList] at h3
          (first | lia | omega)
        refine PySem.P.pop_at_list ?_
        refine wpAny_Constant_int (k := q) (pos := p) ⟨ws, n, 0, s.toks, 0, .int j t, ?_, rfl, g, rfl, ?_, ?_, ?_⟩
        · rw [hsz, sizeLine_eq]; unfold lim at hl; simp at hl; (first | lia | omega)
        · unfold seqIndex?
          simp [hsz]
        · have : ws.toList[0]? = some (.int j t) := by rw [hw]; rfl
          simpa using this
        · refine hQ _ f as [] _ (.refl ..) (I.deckTo hdk (fun b o q z => (Heap.get?_update_other s.heap _ (Ne.symm q)).trans z) (IsL.update g fun xs => xs.eraseIdxIfInBounds 0) (l := r) ?_ ?_) (.fro (.int j t)) ⟨rfl, rfl, rfl⟩
          · have : (ws.eraseIdxIfInBounds 0).toList = tl := by
              obtain ⟨wl⟩ := ws
              simp only at hw
              subst hw
              rw [Array.eraseIdxIfInBounds, dif_pos (by simp)]
              simp
            rw [this]; exact hI'
          · simp at hl; (first | lia | omega)
    · cases hg
  · cases hg
inductive CtlOk (X : Fx) (P f : Frz) (as : Nat → List Addr) (h : Heap) : Ctl → Flow → Prop
  | next : CtlOk X P f as h .next .next
  | brk : CtlOk X P f as h .brk .brk
  | ret {v : Value} {s : Slot} {ar : List Addr} : Res X P f as h v s ar → CtlOk X P f as h (.ret s) (.ret v)
noncomputable def Run (k : Nat) (X : Fx) (T : Around → (Value → Shared → Prop) → (Flow → Shared → Prop) → Shared → Prop) (g : St → Option (Ctl × St)) : Prop :=
  ∀ (A : Around) (P f : Frz) (st : St) (vs : Nat → Value) (as : Nat → List Addr) (s : Shared) (c : Ctl) (st' : St), AOk k A → Inv X P f st vs as s.heap → g st = some (c, st') →
    ∀ (E : Value → Shared → Prop) (Q : Flow → Shared → Prop),
      (∀ fl f' vs' as' s', Grow P f f' → Inv X P f' st' vs' as' s'.heap → CtlOk X P f' as' s'.heap c fl → Same s s' → Q fl s') → T A E Q s
noncomputable abbrev SOk (k : Nat) (X : Fx) (s : Stmt) (g : St → Option (Ctl × St)) : Prop := Run k X (fun A E Q s₀ => wpAny (model X.prog X.w) A (exec s X.env) Q E s₀) g
noncomputable abbrev SsOk (k : Nat) (X : Fx) (ss : List Stmt) (g : St → Option (Ctl × St)) : Prop := Run k X (fun A E Q s₀ => wpAny (model X.prog X.w) A (execs ss X.env) Q E s₀) g
theorem sok_nil : SsOk k X [] (fun st => some (.next, st)) := by
  intro A P f st vs as s c st' hA I hg E Q hQ
  cases hg
  exact wpAny_execs_nil (hQ _ f vs as s (.refl ..) I .next (.refl s))
theorem sok_seq {s : Stmt} {r : List Stmt} {a b : St → Option (Ctl × St)} (ha : SOk k X s a) (hb : SsOk k X r b) : SsOk k X (s :: r) (seqS a b) := by
  intro A P f st vs as s0 c st' hA I hg E Q hQ
  revert hg; refine bind_er2 fun c1 st1 e1 hg => ?_
  refine wpAny_execs_cons (ha A P f st vs as s0 c1 st1 hA I e1 E _ fun fl f1 vs1 as1 s1 G1 I1 C1 S1 => ?_)
  cases C1 with
  | next => exact hb A P f1 st1 vs1 as1 s1 c st' hA I1 hg E Q fun fl f2 vs2 as2 s2 G2 I2 C2 S2 => hQ fl f2 vs2 as2 s2 (G1.trans G2) I2 C2 (S1.trans S2)
  | brk => cases hg; exact hQ _ f1 vs1 as1 s1 G1 I1 .brk S1
  | ret R => cases hg; exact hQ _ f1 vs1 as1 s1 G1 I1 (.ret R) S1
theorem sok_ret {e : Expr} {pos : Pos} {r : R} (h : ROk k X e r) : SOk k X (.Return (some e) pos) (retS r) := by
  intro A P f st vs as s c st' hA I hg E Q hQ
  revert hg; refine bind_er2 fun sl st1 e1 hg => ?_
  cases hg
  exact wpAny_Return_some (h.val A P f st vs as s sl _ hA I e1 E _ fun v f1 as1 ar s1 G1 I1 R1 S1 => hQ _ f1 vs as1 s1 G1 I1 (.ret R1) S1)
theorem sok_brk {pos : Pos} : SOk k X (.Break pos) (fun st => some (.brk, st)) := by
  intro A P f st vs as s c st' hA I hg E Q hQ
  cases hg
  exact wpAny_Break (hQ _ f vs as s (.refl ..) I .brk (.refl s))
theorem sok_if {t : Expr} {x y : List Stmt} {pos : Pos} {r : R} {a b : St → Option (Ctl × St)} (ht : ROk k X t r) (ha : SsOk k X x a) (hb : SsOk k X y b) : SOk k X (.If t x y pos) (ifS r a b) := by
  intro A P f st vs as s c st' hA I hg E Q hQ
  revert hg; refine bind_er2 fun b1 st1 e1 hg => ?_
  refine wpAny_If (ht.tst A P f st vs as s b1 st1 hA I e1 E _ fun f1 as1 s1 G1 I1 S1 => ?_)
  cases b1 with
  | true => exact ha A P f1 st1 vs as1 s1 c st' hA I1 hg E Q fun fl f2 vs2 as2 s2 G2 I2 C2 S2 => hQ fl f2 vs2 as2 s2 (G1.trans G2) I2 C2 (S1.trans S2)
  | false => exact hb A P f1 st1 vs as1 s1 c st' hA I1 hg E Q fun fl f2 vs2 as2 s2 G2 I2 C2 S2 => hQ fl f2 vs2 as2 s2 (G1.trans G2) I2 C2 (S1.trans S2)
theorem swaps_plain {v : Expr} {t : Option Expr} {l : Nat} {env : Env} (h : notComp v = true) : swapsWith v t l env = pure false := by
  cases v <;> first | rfl | cases h
set_option tactic.hygienic true in
theorem setSlot_some {v v' : List Slot} {x : Nat} {s : Slot} (h : setSlot v x s = some v') : x < v.length ∧ v' = v.set x s ∧ s ≠ .unset := by
  unfold setSlot at h
  split at h
  · cases h
  · rename_i q0
    split at h
    · rename_i q; cases h; exact ⟨q, rfl, fun z => by subst z; exact q0 rfl⟩
    · cases h
theorem sok_asg {x : Str} {i : Nat} {p pos : Pos} {e : Expr} {r : R} (hX : FxOk X) (hi : X.names[i]? = some (some x)) (hk : X.env.kindOf x = some .local) (hc : notComp e = true) (h : ROk k X e r) :
    SOk k X (.Assign [.Name x p] e pos) (asgS i r) := by
  intro A P f st vs as s c st' hA I hg E Q hQ
  revert hg; refine bind_er2 fun sl st1 e1 hg => ?_
  dsimp only at hg
  cases e2 : setSlot st1.v i sl with
  | none => rw [e2] at hg; cases hg
  | some v' =>
    rw [e2] at hg
    cases hg
    obtain ⟨q, rfl, hu⟩ := setSlot_some e2
    refine wpAny_Assign_Name (h.val A P f st vs as s sl st1 hA I e1 E _ fun v f1 as1 ar s1 G1 I1 R1 S1 => ?_) (swaps_plain hc)
    exact wp_store hX I1 q hi hk R1 hu fun s2 I2 S2 => hQ _ f1 _ _ s2 G1 I2 .next (S1.trans S2)
end
end Mini
end
section
set_option autoImplicit false
set_option linter.unusedVariables false
set_option linter.unusedSimpArgs false
namespace Mini
set_option tactic.hygienic false
open PySem PySem.Calls PyProof.Rows
section
variable {k : Nat} {X : Fx} {g : Glb} {c : Cx} {mg mb : Str → Option Value}
theorem Inv.upg {P f f' : Frz} {st : St} {vs : Nat → Value} {as : Nat → List Addr} {h h' : Heap} (I : Inv X P f st vs as h) {i : Nat} {s0 s' : Slot} {ar : List Addr} (e : st.v[i]? = some s0) (hu : s0 ≠ .unset) (hu' : s' ≠ .unset)
    (hf : Sub f f') (hn : ∀ a, a ∉ as i → f' a = f a) (hz : ∀ a o, a ∈ as i → f' a = some o → h'.get? a = some o)
    (k : ∀ b o, b ∉ as i → h.get? b = some o → h'.get? b = some o) (ok : SlotOk f' h' X (vs i) ar s')
    (fr : ∀ a ∈ ar, (a ∈ as i ∧ f' a = none) ∨ (f a = none ∧ P a = none ∧ a ≠ X.env.locals ∧ X.dk ≠ some a ∧ ∀ j, a ∉ as j)) (nd : ar.Nodup) : Inv X P f' { st with v := st.v.set i s' } vs (updF as i ar) h' := by
  have hi := lt_of_get e
  have nP : ∀ b, P b ≠ none → b ∉ as i := fun b q z => q (I.asF i b z).2.1
  have fr' : ∀ a ∈ ar, f' a = none ∧ P a = none ∧ a ≠ X.env.locals ∧ X.dk ≠ some a ∧ ∀ j, j ≠ i → a ∉ as j := fun a q => by
    rcases fr a q with ⟨z, z'⟩ | z
    · obtain ⟨h1, h2, h3, h4⟩ := I.asF i a z
      exact ⟨z', h2, h3, h4, fun j hj => I.asD i j a (Ne.symm hj) z⟩
    · exact ⟨(hn a (z.2.2.2.2 i)).trans z.1, z.2.1, z.2.2.1, z.2.2.2.1, fun j _ => z.2.2.2.2 j⟩
  exact {
    frz := fun a o q => by
      by_cases ha : a ∈ as i
      · exact hz a o ha q
      · rw [hn a ha] at q; exact k a o ha (I.frz a o q)
    prs := fun a o q => k a o (nP a (by rw [q]; simp)) (I.prs a o q)
    base := I.base
    len := by simpa using I.len
    ns := by
      obtain ⟨m, n, b⟩ := I.ns
      refine ⟨m, ?_, fun j s x e1 e2 e3 => ?_⟩
      · obtain ⟨o, es, ep, q, r⟩ := n
        exact ⟨o, es, ep, k _ _ (fun z => (I.asF i _ z).2.2.1 rfl) q, r⟩
      · by_cases hj : i = j
        · subst hj; exact (b i s0 x e e2 hu).mono hf
        · rw [List.getElem?_set_ne hj] at e1; exact (b j s x e1 e2 e3).mono hf
    slot := fun j s q => by
      by_cases hj : i = j
      · subst hj
        rw [List.getElem?_set_self hi] at q; cases q
        rw [updF_self]; exact ok
      · rw [List.getElem?_set_ne hj] at q; rw [updF_ne as _ (Ne.symm hj)]
        exact (I.slot j s q).mono hf fun a ha o e => k a o (I.asD j i a (Ne.symm hj) ha) e
    cel := fun j x e1 e2 e3 => by
      by_cases hj : i = j
      · subst hj
        rw [List.getElem?_set_self hi] at e1
        exact absurd (Option.some.inj e1) hu'
      · rw [List.getElem?_set_ne hj] at e1; rw [updF_ne as _ (Ne.symm hj)]
        obtain ⟨cc, o, h1, h2, h3, h4⟩ := I.cel j x e1 e2 e3
        exact ⟨cc, o, h1, k _ _ (I.asD j i cc (Ne.symm hj) (by rw [h4]; simp)) h2, h3, h4⟩
    out := fun j q => by
      have hj : j ≠ i := fun z => by subst z; simp at q; (first | lia | omega)
      rw [updF_ne as _ hj]; exact I.out j (by simpa using q)
    deck := fun a q => by
      obtain ⟨ws, n, h1, h2⟩ := I.deck a q
      exact ⟨ws, n, k _ _ (fun z => (I.asF i a z).2.2.2 q) h1, h2⟩
    locF := ⟨by rw [hn _ fun z => (I.asF i _ z).2.2.1 rfl]; exact I.locF.1, I.locF.2⟩
    dkF := fun a q => ⟨by rw [hn _ fun z => (I.asF i _ z).2.2.2 q]; exact (I.dkF a q).1, (I.dkF a q).2⟩
    asF := fun j a q => by
      by_cases hj : j = i
      · subst hj; rw [updF_self] at q
        obtain ⟨h1, h2, h3, h4, _⟩ := fr' a q
        exact ⟨h1, h2, h3, h4⟩
      · rw [updF_ne as _ hj] at q
        rw [hn a (I.asD j i a hj q)]; exact I.asF j a q
    asN := fun j => by
      by_cases hj : j = i
      · subst hj; rw [updF_self]; exact nd
      · rw [updF_ne as _ hj]; exact I.asN j
    asD := fun j l a hjl q q' => by
      by_cases hj : j = i
      · subst hj; rw [updF_self] at q
        rw [updF_ne as _ (Ne.symm hjl)] at q'
        exact (fr' a q).2.2.2.2 l (Ne.symm hjl) q'
      · rw [updF_ne as _ hj] at q
        by_cases hl : l = i
        · subst hl; rw [updF_self] at q'
          exact (fr' a q').2.2.2.2 j hj q
        · rw [updF_ne as _ hl] at q'; exact I.asD j l a hjl q q' }
set_option tactic.hygienic true in
theorem isOwn_some {st : St} {x : Nat} (h : isOwn st x = true) : ∃ s, st.v[x]? = some s ∧ s ≠ .unset ∧ ((∃ l, s = .own l) ∨ ∃ d l, s = .nest d l) := by
  unfold isOwn at h
  split at h
  · rename_i l e; exact ⟨_, e, by simp, .inl ⟨l, rfl⟩⟩
  · rename_i d l e; exact ⟨_, e, by simp, .inr ⟨d, l, rfl⟩⟩
  · cases h
theorem Inv.ownType {P f : Frz} {st : St} {vs : Nat → Value} {as : Nat → List Addr} {s : Shared} (I : Inv X P f st vs as s.heap) {i : Nat} {sl : Slot} (e : st.v[i]? = some sl) (h : (∃ l, sl = .own l) ∨ ∃ d l, sl = .nest d l) :
    s.TypeIs (vs i) "list" ∧ ∀ b, vs i = .ref b → ∃ ob, s.heap.get? b = some ob ∧ ob.dict = none := by
  rcases h with ⟨l, rfl⟩ | ⟨d, l, rfl⟩
  · refine (I.slot i _ e).is _ fun a ws n hv ha g k r => ?_
    rw [hv]; exact typeIs_list g
  · refine (I.slot i _ e).is _ fun a b ws us n m hv ha g k r g' k' r' => ?_
    rw [hv]; exact typeIs_list g
theorem interactive_fn {env : Env} (h : env.scope.kind = .function) : interactive env = false := by
  unfold interactive
  rw [h]; rfl
theorem wp_meth1 {A : Around} {E : Value → Shared → Prop} {Q : Flow → Shared → Prop} {s : Shared} {P f : Frz} {st : St} {vs : Nat → Value} {as : Nat → List Addr} {i : Nat} {x m : Str} {p apos pos spos : Pos} {e : Expr} {id : String} {sl : Slot}
    (hX : FxOk X) (hd : (x == ("__debug__" : Str)) = false) (hi : X.names[i]? = some (some x)) (hline : (apos.endLine == pos.line) = true) (hs : notStar e = true)
    (slot : PySem.Slot "list" m id) (hty : typeOf (.builtin id) = pure (.type "method_descriptor"))
    (I : Inv X P f st vs as s.heap) (es : st.v[i]? = some sl) (ho : (∃ l, sl = .own l) ∨ ∃ d l, sl = .nest d l)
    (h : wpAny (model X.prog X.w) A (callWith pos (.builtin id) [vs i] [(false, eval e X.env)] []) (fun v s' => v = .none ∧ Q .next s') E s) :
    wpAny (model X.prog X.w) A (exec (.Expr (.Call (.Attribute (.Name x p) m apos) [e] [] pos) spos) X.env) Q E s := by
  have ht : backTo pos (starEach [e] X.env) = [(false, eval e X.env)] := by rw [starEach_cons hs]; rfl
  refine wpAny_Expr (wpAny_Call_method rfl (by rw [ht]; rfl) hline F.plainAttrs_list slot hty (wp_var hX hd I hi es (by rcases ho with ⟨_, rfl⟩ | ⟨_, _, rfl⟩ <;> simp) ?_)) (interactive_fn hX.kind) rfl
  obtain ⟨h1, h2⟩ := I.ownType es ho
  refine ⟨h1, h2, ?_⟩
  rw [ht]
  exact wpAny_mono h (fun v s' q => by obtain ⟨rfl, q⟩ := q; exact q) fun _ _ q => q
theorem push_rep {f : Frz} {ws : Array Value} {l : List D} {v : Value} {d : D} (r : RepL f ws.toList l) (q : Rep f v d) : RepL f (ws.push v).toList (l ++ [d]) := by
  rw [Array.toList_push]; exact r.append (.cons q .nil)
set_option tactic.hygienic true in
theorem sok_append {i : Nat} {x m : Str} {p apos pos spos : Pos} {e : Expr} {r : R} (hX : FxOk X) (hd : (x == ("__debug__" : Str)) = false) (hi : X.names[i]? = some (some x)) (hm : m = ("append" : Str)) (hline : (apos.endLine == pos.line) = true) (hs : notStar e = true)
    (he : ROk k X e r) : SOk k X (.Expr (.Call (.Attribute (.Name x p) m apos) [e] [] pos) spos) (appendS i r) := by
  subst hm
  intro A P f st vs as s c st' hA I hg E Q hQ
  unfold appendS at hg
  split at hg
  · rename_i ho
    obtain ⟨sl, es, hu, ho⟩ := isOwn_some ho
    revert hg; refine bind_er2 fun d st1 e1 hg => ?_
    revert hg; refine bind_r2 fun s2 e2 s3 e3 hg => ?_
    cases hg
    refine wp_meth1 hX hd hi hline hs F.slot_list_append F.type_list_append I es ho ?_
    have hv : ∃ a, vs i = .ref a := by
      have ok := I.slot i sl es
      generalize vs i = v at ok
      generalize as i = ai at ok
      cases ok <;> first | exact ⟨_, rfl⟩ | simp at ho
    obtain ⟨a, hv⟩ := hv
    rw [hv]
    refine PySem.P.append_list (he.F A P f st vs as s d st1 hA I e1 E _ fun v f1 as1 s1 G1 I1 r1 S1 => ?_)
    cases s2 with
    | own l =>
      simp only [appS] at e3
      split at e3
      · rename_i hl
        cases e3
        obtain ⟨a', ws, n, hv', ha, gg, hk, rr⟩ := I1.mutAt e2
        rw [hv] at hv'; cases hv'
        have hn := rr.length
        simp only [Array.length_toList] at hn
        refine ⟨ws, n, by rw [hn, sizeLine_eq]; unfold lim at hk; (first | lia | omega), gg, rfl, ?_⟩
        exact hQ _ f1 vs _ _ G1 (I1.chg (l' := l ++ [d]) e2 hv ha gg (fun xs => xs.push v) (by simp; (first | lia | omega)) (push_rep rr r1)) .next (S1.trans ⟨rfl, rfl, rfl⟩)
      · cases e3
    | _ => cases e3
  · cases hg
set_option tactic.hygienic true in
theorem sok_extend {i : Nat} {x m : Str} {p apos pos spos : Pos} {e : Expr} {r : R} (hX : FxOk X) (hd : (x == ("__debug__" : Str)) = false) (hi : X.names[i]? = some (some x)) (hm : m = ("extend" : Str)) (hline : (apos.endLine == pos.line) = true) (hs : notStar e = true)
    (he : ROk k X e r) : SOk k X (.Expr (.Call (.Attribute (.Name x p) m apos) [e] [] pos) spos) (extendS i r) := by
  subst hm
  intro A P f st vs as s c st' hA I hg E Q hQ
  unfold extendS at hg
  split at hg
  · rename_i ho
    obtain ⟨sl, es, hu, ho⟩ := isOwn_some ho
    revert hg; refine bind_er2 fun d st1 e1 hg => ?_
    revert hg; refine bind_r2 fun s2 e2 s3 e3 hg => ?_
    cases hg
    refine wp_meth1 hX hd hi hline hs F.slot_list_extend F.type_list_extend I es ho ?_
    have hv : ∃ a, vs i = .ref a := by
      have ok := I.slot i sl es
      generalize vs i = v at ok
      generalize as i = ai at ok
      cases ok <;> first | exact ⟨_, rfl⟩ | simp at ho
    obtain ⟨a, hv⟩ := hv
    rw [hv]
    refine PySem.P.extend_list (he.F A P f st vs as s d st1 hA I e1 E _ fun v f1 as1 s1 G1 I1 r1 S1 => ?_)
    cases s2 with
    | own l =>
      cases d with
      | list m =>
        simp only [extS] at e3
        split at e3
        · rename_i hl
          cases e3
          obtain ⟨a', ws, n, hv', ha, gg, hk, rr⟩ := I1.mutAt e2
          rw [hv] at hv'; cases hv'
          cases r1 with
          | list g2 k2 r2 =>
            rename_i b us n2
            have hn := rr.length
            have hn2 := r2.length
            simp only [Array.length_toList] at hn hn2
            unfold lim at hl hk
            refine ⟨b, ws, us, n, n2, by rw [hn, sizeLine_eq]; (first | lia | omega), by rw [hn, hn2, sizeLine_eq]; (first | lia | omega), ?_, rfl, gg, I1.frz _ _ g2, rfl, ?_⟩
            · have : Builtin.List.listTooLong (ws.size + us.size) = false := by
                unfold Builtin.List.listTooLong
                rw [hn, hn2, sizeLine_eq]; simp; (first | lia | omega)
              rw [this]; simp
            · exact hQ _ f1 vs _ _ G1 (I1.chg (l' := l ++ m) e2 hv ha gg (fun xs => xs ++ us) (by simp; unfold lim; (first | lia | omega)) (by rw [Array.toList_append]; exact rr.append r2)) .next (S1.trans ⟨rfl, rfl, rfl⟩)
        · cases e3
      | _ => cases e3
    | _ => cases d <;> cases e3
  · cases hg
noncomputable def isI (i : Int) : Value → Bool
  | .int a _ => a == i
  | _ => false
set_option tactic.hygienic true in
theorem erase_at {f : Frz} {i : Int} : ∀ {vs : List Value} {l r : List D}, RepL f vs l → l.all isInt = true → eraseD l (.int i) = some r →
    ∃ j, ∃ hj : j < vs.length, isI i vs[j] = true ∧ (∀ m (hm : m < vs.length), m < j → isI i vs[m] = false) ∧ RepL f (vs.eraseIdx j) r
  | _, _, _, .nil, _, e => by cases e
  | _, _, _, .cons (v := v) (d := d) h rs, ha, e => by
    simp only [List.all_cons, Bool.and_eq_true] at ha
    cases d with
    | int a =>
      cases h with
      | int _ t =>
        rw [eraseDq2] at e
        have he : D.eqv (.int a) (.int i) = (a == i) := by simp [Deqvq1, Deqvq3, Deqvq4, Deqvq6, Deqvq7, Deqvq9, Deqvq11, Deqvq20, Deqvq21, Deqvq22, Deqvq23, Deqvq24, Deqvq25]
        split at e
        · rename_i hai
          rw [he] at hai
          cases e
          exact ⟨0, by simp, hai, fun m hm q => absurd q (Nat.not_lt_zero _), rs⟩
        · rename_i hai
          rw [he] at hai
          split at e
          · rename_i r' e'
            cases e
            obtain ⟨j, hj, h1, h2, h3⟩ := erase_at rs ha.2 e'
            refine ⟨j + 1, by simp; exact hj, h1, fun m hm q => ?_, .cons (.int a t) h3⟩
            cases m with
            | zero => simpa [isI] using hai
            | succ m => exact h2 m (by simpa using hm) (by (first | lia | omega))
          · cases e
    | _ => cases ha.1
theorem ints_all {f : Frz} : ∀ {vs : List Value} {l : List D}, RepL f vs l → l.all isInt = true → ∀ y ∈ vs, ∃ a t, y = .int a t
  | _, _, .nil, _, y, q => by cases q
  | _, _, .cons (d := d) h rs, ha, y, q => by
    simp only [List.all_cons, Bool.and_eq_true] at ha
    rcases List.mem_cons.mp q with rfl | q
    · cases d with
      | int a => cases h; exact ⟨_, _, rfl⟩
      | _ => cases ha.1
    · exact ints_all rs ha.2 y q
set_option tactic.hygienic true in
theorem eraseD_len {i : D} : ∀ {l r : List D}, eraseD l i = some r → r.length ≤ l.length
  | [], r, e => by cases e
  | x :: l, r, e => by
    simp only [eraseDq1, eraseDq2] at e
    split at e
    · cases e; simp
    · split at e
      · rename_i r' e'; cases e; have := eraseD_len e'; simp; (first | lia | omega)
      · cases e
set_option tactic.hygienic true in
theorem sok_remove {i : Nat} {x m : Str} {p apos pos spos : Pos} {e : Expr} {r : R} (hX : FxOk X) (hd : (x == ("__debug__" : Str)) = false) (hi : X.names[i]? = some (some x)) (hm : m = ("remove" : Str)) (hline : (apos.endLine == pos.line) = true) (hs : notStar e = true)
    (he : ROk k X e r) : SOk k X (.Expr (.Call (.Attribute (.Name x p) m apos) [e] [] pos) spos) (removeS i r) := by
  subst hm
  intro A P f st vs as s c st' hA I hg E Q hQ
  unfold removeS at hg
  split at hg
  · rename_i ho
    obtain ⟨sl, es, hu, ho⟩ := isOwn_some ho
    revert hg; refine bind_er2 fun d st1 e1 hg => ?_
    revert hg; refine bind_r2 fun s2 e2 s3 e3 hg => ?_
    cases hg
    refine wp_meth1 hX hd hi hline hs F.slot_list_remove F.type_list_remove I es ho ?_
    have hv : ∃ a, vs i = .ref a := by
      have ok := I.slot i sl es
      generalize vs i = v at ok
      generalize as i = ai at ok
      cases ok <;> first | exact ⟨_, rfl⟩ | simp at ho
    obtain ⟨a, hv⟩ := hv
    rw [hv]
    refine PySem.P.remove_list (he.F A P f st vs as s d st1 hA I e1 E _ fun v f1 as1 s1 G1 I1 r1 S1 => ?_)
    cases s2 with
    | own l =>
      simp only [remS] at e3
      split at e3
      · rename_i hc
        simp only [Bool.and_eq_true] at hc
        split at e3
        · rename_i r' e4
          cases e3
          cases d with
          | int j0 =>
            cases r1 with
            | int _ t =>
              obtain ⟨a', ws, n, hv', ha, gg, hk, rr⟩ := I1.mutAt e2
              rw [hv] at hv'; cases hv'
              obtain ⟨j, hj, h1, h2, h3⟩ := erase_at rr hc.2 e4
              have hn := rr.length
              simp only [Array.length_toList] at hn hj
              refine ⟨ws, n, isI j0, j, hj, by rw [hn, sizeLine_eq]; unfold lim at hk; (first | lia | omega), gg, ?_, by simpa using h1, fun m hm q => by have h5 := h2 m (by rw [Array.length_toList]; exact hm) q; rw [Array.getElem_toList] at h5; exact h5, rfl, ?_⟩
              · intro y hy
                obtain ⟨b, u, rfl⟩ := ints_all rr hc.2 y (by simpa using hy)
                exact PySem.MeetsSeq.EqGives.int b j0 u t
              · refine hQ _ f1 vs _ _ G1 (I1.chg (l' := r') e2 hv ha gg (fun xs => xs.eraseIdxIfInBounds j) ?_ ?_) .next (S1.trans ⟨rfl, rfl, rfl⟩)
                · exact Nat.le_trans (eraseD_len e4) hk
                · have : (ws.eraseIdxIfInBounds j).toList = ws.toList.eraseIdx j := by
                    obtain ⟨wl⟩ := ws
                    rw [Array.eraseIdxIfInBounds, dif_pos (by simpa using hj)]
                    simp
                  rw [this]; exact h3
          | _ => cases hc.1
        · cases e3
      · cases e3
    | _ => cases e3
  · cases hg
end
end Mini
end
section
set_option autoImplicit false
set_option linter.unusedVariables false
set_option linter.unusedSimpArgs false
namespace Mini
set_option tactic.hygienic false
open PySem PySem.Calls PyProof.Rows
section
variable {k : Nat} {X : Fx} {g : Glb} {c : Cx} {mg mb : Str → Option Value}
theorem Inv.nestAt {P f : Frz} {st : St} {vs : Nat → Value} {as : Nat → List Addr} {h : Heap} (I : Inv X P f st vs as h) {i : Nat} {done last : List D} (e : st.v[i]? = some (.nest done last)) :
    ∃ (a b : Addr) (ws us : Array Value) (n m : Nat), vs i = .ref a ∧ as i = [a, b] ∧ h.get? a = some (seqObj "list" (ws.push (.ref b)) n) ∧ done.length < lim ∧ RepL f ws.toList done ∧ h.get? b = some (seqObj "list" us m) ∧ last.length ≤ lim ∧ RepL f us.toList last := by
  exact (I.slot i _ e).is _ fun a b ws us n m hv ha g k r g' k' r' => ⟨a, b, ws, us, n, m, hv, ha, g, k, r, g', k', r'⟩
theorem appNS_el {s m s3 : Slot} {P : Prop} (h : appNS s m = some s3) (k1 : ∀ l mm, s = .own l → m = .own mm → l.length < lim → s3 = .nest l mm → P)
    (k2 : ∀ done last mm, s = .nest done last → m = .own mm → done.length + 1 < lim → s3 = .nest (done ++ [.list last]) mm → P) : P := by
  cases m with
  | own mm =>
    cases s with
    | own l => exact ite_er (fun q e => k1 l mm rfl rfl q (Option.some.inj e).symm) h
    | nest done last => exact ite_er (fun q e => k2 done last mm rfl rfl q (Option.some.inj e).symm) h
    | _ => exact no_el h
  | _ => cases s <;> exact no_el h
theorem Inv.nestOwn {P f : Frz} {st : St} {vs : Nat → Value} {as : Nat → List Addr} {h : Heap} (I : Inv X P f st vs as h) {i : Nat} {l mm : List D} {a : Addr} {ar : List Addr} {v : Value} (e : st.v[i]? = some (.own l)) (hv : vs i = .ref a) (R : Res X P f as h v (.own mm) ar) (hl : l.length < lim) {Z : Prop}
    (k : ∀ ws n as', ws.size ≤ sizeLine → h.get? a = some (seqObj "list" ws n) → Inv X P f { st with v := st.v.set i (.nest l mm) } vs as' (h.update a (Obj.mapSeq fun xs => xs.push v)) → Z) : Z := by
  refine R.ok.is _ fun b us nb hvb har gb kb rb => ?_
  obtain ⟨q1, q2, q3, q4, q5⟩ := R.fr b (by rw [har]; exact List.mem_cons_self ..)
  refine (I.slot i _ e).is _ fun a' ws n hv' ha gg hk rr => ?_
  rw [hv] at hv'
  have hv' := (Value.ref.inj hv').symm
  rw [hv'] at ha gg
  have hab : a ≠ b := fun z => q5 i (by rw [ha, z]; exact List.mem_cons_self ..)
  have hn : ws.size = l.length := rr.length
  rw [hvb] at k
  refine k ws n _ (by rw [hn, sizeLine_eq]; unfold lim at hk; (first | lia | omega)) gg (I.upd (s' := .nest l mm) (ar := [a, b]) e (fun z => nomatch z) (fun z => nomatch z) (fun c o q z => (Heap.get?_update_other h _ (by rw [ha] at q; simpa [eq_comm] using q)).trans z) ?_ (fun c q => ?_) (by simpa using hab))
  · rw [hv]
    exact .nest (IsL.update gg fun xs => xs.push (.ref b)) hl rr ((Heap.get?_update_other h _ hab).trans gb) kb rb
  · rcases List.mem_cons.mp q with q | q
    · exact .inl (by rw [ha, q]; exact List.mem_cons_self ..)
    · rw [List.mem_singleton.mp q]; exact .inr ⟨q1, q2, q3, q4, q5⟩
theorem Inv.nestNest {P f : Frz} {st : St} {vs : Nat → Value} {as : Nat → List Addr} {h : Heap} (I : Inv X P f st vs as h) {i : Nat} {done last mm : List D} {a : Addr} {ar : List Addr} {v : Value} (e : st.v[i]? = some (.nest done last)) (hv : vs i = .ref a) (R : Res X P f as h v (.own mm) ar) (hl : done.length + 1 < lim) {Z : Prop}
    (k : ∀ ws n f' as', ws.size ≤ sizeLine → h.get? a = some (seqObj "list" ws n) → Grow P f f' → Inv X P f' { st with v := st.v.set i (.nest (done ++ [.list last]) mm) } vs as' (h.update a (Obj.mapSeq fun xs => xs.push v)) → Z) : Z := by
  refine R.ok.is _ fun b us nb hvb har gb kb rb => ?_
  obtain ⟨q1, q2, q3, q4, q5⟩ := R.fr b (by rw [har]; exact List.mem_cons_self ..)
  refine (I.slot i _ e).is _ fun a' b0 ws us0 n m0 hv' ha gg hk rr g0 k0 r0 => ?_
  rw [hv] at hv'
  have hv' := (Value.ref.inj hv').symm
  rw [hv'] at ha gg
  have m1 : a ∈ as i := by rw [ha]; exact List.mem_cons_self ..
  have m2 : b0 ∈ as i := by rw [ha]; exact List.mem_cons_of_mem _ (List.mem_cons_self ..)
  have hab : a ≠ b := fun z => q5 i (z ▸ m1)
  have hnd : a ≠ b0 := by have := I.asN i; rw [ha] at this; simpa using this
  have hn : ws.size = done.length := rr.length
  have p0 := I.asF i b0 m2
  have sb := Frz.put_sub (f := f) (a := b0) (seqObj "list" us0 m0) p0.1
  rw [hvb] at k
  refine k (ws.push (.ref b0)) n (f.put b0 (seqObj "list" us0 m0)) _ (by rw [Array.size_push, hn, sizeLine_eq]; unfold lim at hk; (first | lia | omega)) gg (.put _ p0.1 p0.2.1) (I.upg (s' := .nest (done ++ [.list last]) mm) (ar := [a, b]) e (fun z => nomatch z) (fun z => nomatch z) sb ?_ ?_ (fun c o q z => (Heap.get?_update_other h _ (fun w => q ((show a = c from w) ▸ m1))).trans z) ?_ (fun c q => ?_) (by simpa using hab))
  · intro c q
    exact Frz.put_ne f _ fun z => q (z ▸ m2)
  · intro c o q z
    by_cases hc : c = b0
    · rw [hc, Frz.put_self] at z
      rw [hc, ← z]
      exact (Heap.get?_update_other h _ hnd).trans g0
    · rw [Frz.put_ne f _ hc, (I.asF i c q).1] at z
      exact no_el z
  · rw [hv]
    refine .nest (IsL.update gg fun xs => xs.push (.ref b)) (by rw [List.length_append]; exact hl) ?_ ((Heap.get?_update_other h _ hab).trans gb) kb (rb.mono sb)
    rw [Array.toList_push]
    exact (rr.mono sb).append (.cons (.list (Frz.put_self ..) k0 (r0.mono sb)) .nil)
  · rcases List.mem_cons.mp q with q | q
    · rw [q]; exact .inl ⟨m1, by rw [Frz.put_ne f _ hnd]; exact (I.asF i a m1).1⟩
    · rw [List.mem_singleton.mp q]; exact .inr ⟨q1, q2, q3, q4, q5⟩
theorem sok_appendN {i : Nat} {x m : Str} {p apos pos spos : Pos} {e : Expr} {r : R} (hX : FxOk X) (hd : (x == ("__debug__" : Str)) = false) (hi : X.names[i]? = some (some x)) (hm : m = ("append" : Str)) (hline : (apos.endLine == pos.line) = true) (hs : notStar e = true)
    (he : ROk k X e r) : SOk k X (.Expr (.Call (.Attribute (.Name x p) m apos) [e] [] pos) spos) (appendNS i r) := by
  subst hm
  intro A P f st vs as s c st' hA I hg E Q hQ
  revert hg; refine ite_er fun ho hg => ?_
  obtain ⟨sl, es, hu, ho⟩ := isOwn_some ho
  revert hg; refine bind_er2 fun d st1 e1 hg => ?_
  revert hg; refine bind_r2 fun s2 e2 s3 e3 hg => ?_
  cases hg
  refine wp_meth1 hX hd hi hline hs F.slot_list_append F.type_list_append I es ho ?_
  obtain ⟨a, hv⟩ : ∃ a, vs i = .ref a := by
    rcases ho with ⟨l, rfl⟩ | ⟨d, l, rfl⟩
    · exact (I.slot i _ es).is _ fun a ws n hv _ _ _ _ => ⟨a, hv⟩
    · exact (I.slot i _ es).is _ fun a b ws us n m hv _ _ _ _ _ _ _ => ⟨a, hv⟩
  rw [hv]
  refine PySem.P.append_list (he.val A P f st vs as s d st1 hA I e1 E _ fun v f1 as1 ar s1 G1 I1 R1 S1 => ?_)
  have S2 : Same s { s1 with heap := s1.heap.update a (Obj.mapSeq fun xs => xs.push v) } := S1.trans ⟨rfl, rfl, rfl⟩
  refine appNS_el e3 (fun l mm h1 h2 hl h3 => ?_) (fun done last mm h1 h2 hl h3 => ?_)
  · rw [h3] at hQ; rw [h1] at e2; rw [h2] at R1
    exact I1.nestOwn e2 hv R1 hl fun ws n as' w1 w2 J => ⟨ws, n, w1, w2, rfl, hQ _ f1 vs _ _ G1 J .next S2⟩
  · rw [h3] at hQ; rw [h1] at e2; rw [h2] at R1
    exact I1.nestNest e2 hv R1 hl fun ws n f' as' w1 w2 G2 J => ⟨ws, n, w1, w2, rfl, hQ _ f' vs _ _ (G1.trans G2) J .next S2⟩
set_option tactic.hygienic true in
theorem sok_appendL {i j : Nat} {x y m : Str} {p py sp apos pos spos : Pos} {ix : Expr} (hX : FxOk X) (hd : (x == ("__debug__" : Str)) = false) (hi : X.names[i]? = some (some x)) (hd' : (y == ("__debug__" : Str)) = false) (hj : X.names[j]? = some (some y))
    (hm : m = ("append" : Str)) (hline : (apos.endLine == pos.line) = true) (hix : isMinus1 ix = true) :
    SOk k X (.Expr (.Call (.Attribute (.Subscript (.Name x p) ix sp) m apos) [.Name y py] [] pos) spos) (appendLS i j) := by
  subst hm
  intro A P f st vs as s c st' hA I hg E Q hQ
  unfold appendLS at hg
  revert hg; refine bind_r3 fun s2 e2 t2 e3 s3 e4 hg => ?_
  cases hg
  cases s2 with
  | nest done last =>
    cases t2 with
    | fro d =>
      simp only [appLS] at e4
      split at e4
      · rename_i hl
        cases e4
        obtain ⟨q, p1, p2, rfl⟩ := minus1 hix
        obtain ⟨a, b, ws, us, n, m0, hv, ha, gg, hk, rr, g0, k0, r0⟩ := I.nestAt e2
        have hnd : a ≠ b := by have := I.asN i; rw [ha] at this; simpa using this
        have ry : Rep f (vs j) d := by
          have ok := I.slot j _ e3
          generalize vs j = v at ok ⊢
          generalize as j = aj at ok
          cases ok with
          | fro r => exact r
        have hn := rr.length
        have hn2 := r0.length
        simp only [Array.length_toList] at hn hn2
        unfold lim at hk k0 hl
        refine wpAny_Expr (wpAny_Call_method rfl rfl hline F.plainAttrs_list F.slot_list_append F.type_list_append (wp_sub (wp_var hX hd I hi e2 (by simp) ?_))) (interactive_fn hX.kind) rfl
        refine wpAny_UnaryOp (wpAny_Constant_int (PySem.P.neg_int ?_))
        rw [hv]
        refine ⟨.inl ⟨_, gg, rfl⟩, ?_⟩
        refine wpAny_getItem_list_neg (items := ws.push (.ref b)) (x := .ref b) ⟨_, gg, rfl, _, rfl⟩ (by (first | lia | omega)) (by simp; (first | lia | omega)) (by (first | lia | omega)) ?_ ?_
        · have : ((-1 : Int) + ((ws.push (Value.ref b)).size : Nat)).toNat = ws.size := by simp; (first | lia | omega)
          rw [this]; simp
        · obtain ⟨h1, h2⟩ := typeIs_list (s := ({ s with toks := s.toks + 1 + 1 } : Shared)) g0
          refine ⟨h1, h2, ?_⟩
          refine PySem.P.append_list (x := eval (.Name y py) X.env) (wp_var hX hd' (s := ({ s with toks := s.toks + 1 + 1 } : Shared)) I hj e3 (by simp) ⟨us, m0, by rw [hn2, sizeLine_eq]; (first | lia | omega), g0, ?_⟩)
          refine hQ _ f vs _ _ (.refl ..) (I.upd (s' := .nest done (last ++ [d])) (ar := [a, b]) e2 (by simp) (by simp) (fun c o q z => (Heap.get?_update_other s.heap _ (by rw [ha] at q; simp at q; exact fun z => q.2 z.symm)).trans z) ?_ (fun c q => .inl (by rw [ha]; exact q)) (by simpa using hnd)) .next ⟨rfl, rfl, rfl⟩
          rw [hv]
          exact .nest ((Heap.get?_update_other s.heap _ (Ne.symm hnd)).trans gg) (by unfold lim; (first | lia | omega)) rr (IsL.update g0 fun xs => xs.push (vs j)) (by simp; unfold lim; (first | lia | omega)) (push_rep r0 ry)
      · cases e4
    | _ => cases e4
  | _ => cases e4
theorem swaps_sub {v o i : Expr} {p : Pos} {l : Nat} {env : Env} : swapsWith v (some (.Subscript o i p)) l env = pure false := by
  cases v <;> rfl
theorem swaps_cell {v : Expr} {x : Str} {p : Pos} {l : Nat} {env : Env} (hk : env.kindOf x = some .cell) : swapsWith v (some (.Name x p)) l env = pure false := by
  have h : (env.kindOf x == some NameKind.local) = false := by rw [hk]; rfl
  cases v <;> first
    | rfl
    | (unfold swapsWith; simp only [h, Bool.and_false, Bool.false_and, pure_bind])
theorem keys_stored {α : Type} (kvs : List (Int × α)) (k : Int) (v : α) : True := trivial
theorem stored_keys {kvs : List (Int × Value)} {k : Int} {v : Value} : (stored kvs k v).map (·.1) = putKey (kvs.map (·.1)) k := by
  unfold stored putKey
  have h : kvs.any (fun kv => decide (kv.1 = k)) = (kvs.map (·.1)).contains k := by
    induction kvs with
    | nil => rfl
    | cons a l ih =>
      simp only [List.any_cons, List.map_cons, List.contains_cons, ih]
      congr 1
      by_cases q : a.1 = k
      · simp [q]
      · simp [q, Ne.symm q]
  rw [h]
  split
  · rw [List.map_map]
    congr 1
    funext a
    simp only [Function.comp]
    split <;> rfl
  · simp
theorem stored_len {kvs : List (Int × Value)} {k : Int} {v : Value} (h : kvs.length < lim) : (stored kvs k v).length ≤ lim := by
  unfold stored
  split
  · simp; (first | lia | omega)
  · simp; (first | lia | omega)
theorem putS_el {s s3 : Slot} {dk d : D} {P : Prop} (h : putS s dk d = some s3) (k1 : ∀ l j, s = .own l → dk = .int j → 0 ≤ j ∧ j < l.length → s3 = .own (l.set j.toNat d) → P)
    (k2 : ∀ ks j, s = .dct ks → dk = .int j → ks.length < lim → d = .bool true → s3 = .dct (putKey ks j) → P) : P := by
  cases dk with
  | int j =>
    cases s with
    | own l => exact ite_er (fun q e => k1 l j rfl rfl q (Option.some.inj e).symm) h
    | dct ks =>
      refine ite_er (fun q e => ?_) h
      cases d with
      | bool b =>
        cases b with
        | true => exact k2 ks j rfl rfl q rfl (Option.some.inj e).symm
        | false => exact no_el e
      | _ => exact no_el e
    | _ => exact no_el h
  | _ => cases s <;> exact no_el h
theorem sok_setIdx {i : Nat} {x : Str} {p pos spos : Pos} {e ix : Expr} {r q : R} (hX : FxOk X) (hd : (x == ("__debug__" : Str)) = false) (hi : X.names[i]? = some (some x)) (he : ROk k X e r) (hq : ROk k X ix q) :
    SOk k X (.Assign [.Subscript (.Name x p) ix pos] e spos) (setIdxS i q r) := by
  intro A P f st vs as s c st' hA I hg E Q hQ
  revert hg; refine bind_er2 fun d st1 e1 hg => ?_
  revert hg; refine ite_er fun hs hg => ?_
  obtain ⟨s0, e0, hu⟩ := isSet_some hs
  revert hg; refine bind_er2 fun dk st2 e2 hg => ?_
  revert hg; refine bind_r2 fun s2 e3 s3 e4 hg => ?_
  cases hg
  refine wpAny_Assign_Subscript (he.F A P f st vs as s d st1 hA I e1 E _ fun v f1 as1 s1 G1 I1 r1 S1 => ?_) swaps_sub
  refine wp_var hX hd I1 hi e0 hu ?_
  refine hq.F A P f1 st1 vs as1 s1 dk st2 hA I1 e2 E _ fun u f2 as2 sh2 G2 I2 r2 S2 => ?_
  have r1' := r1.mono G2.sub
  have G := G1.trans G2
  have S := S1.trans S2
  clear e1 e2 I1 I r1 G1 G2 S1 S2
  refine putS_el e4 (fun l j h1 h2 hj h3 => ?_) (fun ks j h1 h2 hl h4 h3 => ?_)
  · rw [h3] at hQ; rw [h1] at e3; rw [h2] at r2
    apply r2.intE
    intro t
    refine (I2.slot i _ e3).is _ fun a ws n hv ha gg hk rr => ?_
    have hn : ws.size = l.length := rr.length
    rw [hv]
    unfold lim at hk
    refine PySem.W.ki_setAt (items := ws) (n := n) gg hj.1 (by (first | lia | omega)) (by (first | lia | omega)) ?_
    refine hQ _ f2 vs _ _ G (I2.chg (l' := l.set j.toNat d) e3 hv ha gg (fun xs => xs.setIfInBounds j.toNat v) (by rw [List.length_set]; exact hk) ?_) .next (S.trans ⟨rfl, rfl, rfl⟩)
    rw [Array.toList_setIfInBounds]
    exact rr.set _ r1'
  · rw [h3] at hQ; rw [h1] at e3; rw [h2] at r2
    apply r2.intE
    intro t
    refine (I2.slot i _ e3).is _ fun a kvs hv ha hm hk hy hks => ?_
    rw [hv]
    refine wpAny_setItem_pairs (intKind_is ..) hm (fun h' hm' hsb => ?_) (by rw [sizeLine_eq]; unfold lim at hk; (first | lia | omega))
    refine hQ _ f2 vs _ _ G (I2.upd (s' := .dct (putKey ks j)) (ar := [a]) e3 (fun z => nomatch z) (fun z => nomatch z) (fun c o q z => (hsb.2 c (fun y => q (by rw [ha, y]; exact List.mem_cons_self ..))).trans z) ?_ (fun c q => .inl (by rw [ha]; exact q)) (by simp)) .next (S.trans ⟨rfl, rfl, rfl⟩)
    rw [hv, hks, ← stored_keys (v := v)]
    exact .dct hm' (stored_len (by rw [hks, List.length_map] at hl; exact hl)) hy
set_option tactic.hygienic true in
theorem sok_asgC {x : Str} {i : Nat} {p pos : Pos} {e : Expr} {r : R} (hX : FxOk X) (hi : X.names[i]? = some (some x)) (hk : X.env.kindOf x = some .cell) (h : ROk k X e r) :
    SOk k X (.Assign [.Name x p] e pos) (asgCS i r) := by
  intro A P f st vs as s c st' hA I hg E Q hQ
  revert hg; refine bind_er2 fun d st1 e1 hg => ?_
  dsimp only at hg
  split at hg
  · cases hg
  · rename_i hs
    cases e2 : setSlot st1.v i (.fro d) with
    | none => rw [e2] at hg; cases hg
    | some v' =>
      rw [e2] at hg
      cases hg
      obtain ⟨q, rfl, hu⟩ := setSlot_some e2
      have e3 : st1.v[i]? = some .unset := by
        unfold isSet at hs
        rw [List.getElem?_eq_getElem q] at hs ⊢
        split at hs <;> simp_all
      refine wpAny_Assign_Name (h.F A P f st vs as s d st1 hA I e1 E _ fun v f1 as1 s1 G1 I1 r1 S1 => ?_) (swaps_cell hk)
      obtain ⟨cc, o, h1, h2, h3, h4⟩ := I1.cel i x e3 hi hk
      refine wpAny_storeName_cell hX.kind hk h1 ⟨o, h2, h3⟩ fun h' hcell hsb => ?_
      obtain ⟨o', g1, g2⟩ := hcell
      have pc := I1.asF i cc (by rw [h4]; simp)
      have sb := Frz.put_sub (f := f1) (a := cc) o' pc.1
      have kp : ∀ b o, b ≠ cc → s1.heap.get? b = some o → h'.get? b = some o := fun b o z y => (hsb.2 b z).trans y
      have none_ne : ∀ b, f1 b ≠ none → b ≠ cc := fun b z y => z (y ▸ pc.1)
      refine hQ .next (f1.put cc o') (updF vs i v) (updF as1 i []) { s1 with heap := h' } (G1.trans (.put _ pc.1 pc.2.1)) ?_ .next (S1.trans ⟨rfl, rfl, rfl⟩)
      exact {
        frz := fun a ob z => by
          by_cases ha : a = cc
          · subst ha; rw [Frz.put_self] at z; cases z; exact g1
          · rw [Frz.put_ne f1 _ ha] at z; exact kp a ob ha (I1.frz a ob z)
        prs := fun a ob z => kp a ob (fun y => by rw [y, pc.2.1] at z; cases z) (I1.prs a ob z)
        base := I1.base
        len := by simpa using I1.len
        ns := by
          obtain ⟨m, n, b⟩ := I1.ns
          refine ⟨m, ?_, fun j sl y e1 e2 e3' => ?_⟩
          · obtain ⟨ob, es, ep, z, w⟩ := n
            exact ⟨ob, es, ep, kp _ _ (Ne.symm pc.2.2.1) z, w⟩
          · by_cases hj : i = j
            · subst hj
              rw [hi] at e2; cases e2
              rw [updF_self]
              exact .inr ⟨.inl hk, cc, o', h1, Frz.put_self .., g2⟩
            · rw [List.getElem?_set_ne hj] at e1; rw [updF_ne vs _ (Ne.symm hj)]
              exact (b j sl y e1 e2 e3').mono sb
        slot := fun j sl z => by
          by_cases hj : i = j
          · subst hj
            rw [List.getElem?_set_self q] at z; cases z
            rw [updF_self, updF_self]; exact .fro (r1.mono sb)
          · rw [List.getElem?_set_ne hj] at z; rw [updF_ne as1 _ (Ne.symm hj), updF_ne vs _ (Ne.symm hj)]
            exact (I1.slot j sl z).mono sb fun a ha ob w => kp a ob (fun y => I1.asD j i a (Ne.symm hj) ha (by rw [h4, y]; simp)) w
        cel := fun j y e1 e2 e3' => by
          by_cases hj : i = j
          · subst hj
            rw [List.getElem?_set_self q] at e1
            cases e1
          · rw [List.getElem?_set_ne hj] at e1; rw [updF_ne as1 _ (Ne.symm hj)]
            obtain ⟨c2, ob, w1, w2, w3, w4⟩ := I1.cel j y e1 e2 e3'
            exact ⟨c2, ob, w1, kp _ _ (fun y => I1.asD j i c2 (Ne.symm hj) (by rw [w4]; simp) (by rw [h4, y]; simp)) w2, w3, w4⟩
        out := fun j w => by
          have hj : j ≠ i := fun z => by subst z; simp at w; (first | lia | omega)
          rw [updF_ne as1 _ hj]; exact I1.out j (by simpa using w)
        deck := fun a w => by
          obtain ⟨ws, n, w1, w2⟩ := I1.deck a w
          exact ⟨ws, n, kp _ _ (fun y => pc.2.2.2 (by rw [← y]; exact w)) w1, w2⟩
        locF := ⟨by rw [Frz.put_ne f1 _ (Ne.symm pc.2.2.1)]; exact I1.locF.1, I1.locF.2⟩
        dkF := fun a w => ⟨by rw [Frz.put_ne f1 _ (fun y => pc.2.2.2 (by rw [← y]; exact w))]; exact (I1.dkF a w).1, (I1.dkF a w).2⟩
        asF := fun j a w => by
          by_cases hj : j = i
          · subst hj; rw [updF_self] at w; cases w
          · rw [updF_ne as1 _ hj] at w
            rw [Frz.put_ne f1 _ (fun y => I1.asD j i a hj w (by rw [h4, y]; simp))]; exact I1.asF j a w
        asN := fun j => by
          by_cases hj : j = i
          · subst hj; rw [updF_self]; exact List.nodup_nil
          · rw [updF_ne as1 _ hj]; exact I1.asN j
        asD := fun j l a hjl w w' => by
          by_cases hj : j = i
          · subst hj; rw [updF_self] at w; cases w
          · by_cases hl : l = i
            · subst hl; rw [updF_self] at w'; cases w'
            · rw [updF_ne as1 _ hj] at w; rw [updF_ne as1 _ hl] at w'; exact I1.asD j l a hjl w w' }
end
end Mini
end
section
set_option autoImplicit false
set_option linter.unusedVariables false
set_option linter.unusedSimpArgs false
namespace Mini
set_option tactic.hygienic false
open PySem PySem.Calls PyProof.Rows
section
variable {k : Nat} {X : Fx} {g : Glb} {c : Cx} {mg mb : Str → Option Value}
structure HoldsAt (P P' : Frz) (ar : List Addr) (h : Heap) : Prop where
  sub : Sub P P'
  at' : ∀ a ∈ ar, ∃ o, h.get? a = some o ∧ P' a = some o
theorem Inv.holdAll {f : Frz} {st : St} {vs : Nat → Value} {as : Nat → List Addr} {h : Heap} : ∀ (ar : List Addr) {P : Frz}, Inv X P f st vs as h → (∀ a ∈ ar, P a = none ∧ a ≠ X.env.locals ∧ X.dk ≠ some a ∧ (∀ i, a ∉ as i) ∧ ∃ o, h.get? a = some o) → ar.Nodup →
    ∃ P', HoldsAt P P' ar h ∧ Inv X P' f st vs as h
  | [], P, I, _, _ => ⟨P, ⟨fun _ _ e => e, fun a q => (nomatch q)⟩, I⟩
  | a :: ar, P, I, hh, hn => by
    obtain ⟨h1, h2, h3, h4, o, h5⟩ := hh a (by simp)
    have hn' := List.nodup_cons.mp hn
    have I' := I.hold h5 h1 h2 h3 h4
    obtain ⟨P', H, I''⟩ := Inv.holdAll ar I' (fun b q => by
      obtain ⟨w1, w⟩ := hh b (List.mem_cons_of_mem _ q)
      have : b ≠ a := fun z => hn'.1 (z ▸ q)
      exact ⟨by rw [Frz.put_ne P o this]; exact w1, w⟩) hn'.2
    refine ⟨P', ⟨fun b ob z => H.sub b ob (Frz.put_sub o h1 b ob z), fun b q => ?_⟩, I''⟩
    rcases List.mem_cons.mp q with rfl | q
    · exact ⟨o, h5, H.sub _ _ (Frz.put_self ..)⟩
    · exact H.at' b q
inductive Chain (X : Fx) (f : Frz) (h : Heap) : Frz → List Value → List Slot → Frz → Prop
  | nil {P : Frz} : Chain X f h P [] [] P
  | cons {P P1 P2 : Frz} {v : Value} {s : Slot} {ar : List Addr} {vs : List Value} {ss : List Slot} : SlotOk f h X v ar s → (∀ a ∈ ar, f a = none ∧ P a = none ∧ a ≠ X.env.locals ∧ X.dk ≠ some a) → ar.Nodup → HoldsAt P P1 ar h →
      Chain X f h P1 vs ss P2 → Chain X f h P (v :: vs) (s :: ss) P2
theorem Chain.sub {f : Frz} {h : Heap} {P P' : Frz} {vs : List Value} {ss : List Slot} (x : Chain X f h P vs ss P') : Sub P P' := by
  induction x with
  | nil => exact fun _ _ e => e
  | cons _ _ _ H _ ih => exact fun a o e => ih a o (H.sub a o e)
theorem Chain.mono {f f' : Frz} {h h' : Heap} {P P' : Frz} {vs : List Value} {ss : List Slot} (x : Chain X f h P vs ss P') (G : Grow P' f f') (k : ∀ a o, P' a = some o → h.get? a = some o → h'.get? a = some o) : Chain X f' h' P vs ss P' := by
  induction x with
  | nil => exact .nil
  | @cons P P1 P2 v s ar vs ss ok fr nd H ch ih =>
    have sb := ch.sub
    have hP : ∀ a ∈ ar, ∃ o, h.get? a = some o ∧ P2 a = some o := fun a q => by
      obtain ⟨o, e1, e2⟩ := H.at' a q
      exact ⟨o, e1, sb a o e2⟩
    refine .cons (ok.mono G.sub fun a q o e => ?_) (fun a q => ?_) nd ⟨H.sub, fun a q => ?_⟩ (ih G k)
    · obtain ⟨o', e1, e2⟩ := hP a q
      rw [e] at e1; cases e1
      exact k a o e2 e
    · obtain ⟨w1, w2, w3, w4⟩ := fr a q
      obtain ⟨o', e1, e2⟩ := hP a q
      exact ⟨G.off a w1 (by rw [e2]; simp), w2, w3, w4⟩
    · obtain ⟨o', e1, e2⟩ := H.at' a q
      exact ⟨o', k a o' (sb a o' e2) e1, e2⟩
theorem Chain.len {f : Frz} {h : Heap} {P P' : Frz} {vs : List Value} {ss : List Slot} (x : Chain X f h P vs ss P') : vs.length = ss.length := by
  induction x with
  | nil => rfl
  | cons _ _ _ _ _ ih => simp [ih]
noncomputable def SLOk (k : Nat) (X : Fx) (es : List Expr) (l : AR) : Prop :=
  ∀ (A : Around) (P f : Frz) (st : St) (vs : Nat → Value) (as : Nat → List Addr) (s : Shared) (ss : List Slot) (st' : St), AOk k A → Inv X P f st vs as s.heap → l st = some (ss, st') →
    ∀ (pos : Pos) (E : Value → Shared → Prop) (Q : List Value → Shared → Prop),
      (∀ ws f' as' s' P', Grow P f f' → Inv X P' f' st' vs as' s'.heap → Chain X f' s'.heap P ws ss P' → Same s s' → Q ws s') → wpAny (model X.prog X.w) A (spliced (backTo pos (starEach es X.env))) Q E s
theorem slok_nil {cf : CF} : SLOk k X [] (evS cf .nil) := by
  intro A P f st vs as s ds st' hA I hg pos E Q hQ
  cases hg
  exact wpAny_items_nil (hQ [] f as s P (.refl ..) I .nil (.refl s))
theorem Sub.ne {P P' : Frz} (h : Sub P P') : ∀ x, P x ≠ none → P' x ≠ none := fun x e z => by
  cases q : P x with
  | none => exact e q
  | some o => rw [h x o q] at z; cases z
theorem slok_cons {cf : CF} {e : Expr} {es : List Expr} {a : Ex} {r : Exs} (hs : notStar e = true) (h : ROk k X e (ev cf a)) (hr : SLOk k X es (evS cf r)) : SLOk k X (e :: es) (evS cf (.cons a r)) := by
  intro A P f st vs as s ds st' hA I hg pos E Q hQ
  revert hg; refine bind_er2 fun d st1 e1 hg => ?_
  revert hg; refine bind_er2 fun ds' st2 e2 hg => ?_
  cases hg
  refine wpAny_items_cons (h.val A P f st vs as s d st1 hA I e1 E _ fun v f1 as1 ar s1 G1 I1 R1 S1 => ?_) (starEach_cons hs)
  obtain ⟨P1, H1, J1⟩ := I1.holdAll (f := f1) ar (fun a q => ⟨(R1.fr a q).2.1, (R1.fr a q).2.2.1, (R1.fr a q).2.2.2.1, (R1.fr a q).2.2.2.2, R1.ok.there a q⟩) R1.nd
  refine hr A P1 f1 st1 vs as1 s1 ds' _ hA J1 e2 pos E _ fun ws f2 as2 s2 P2 G2 I2 ch S2 => ?_
  have keep : ∀ a ∈ ar, ∀ o, s1.heap.get? a = some o → s2.heap.get? a = some o := fun a q o e => by
    obtain ⟨o', w1, w2⟩ := H1.at' a q
    rw [e] at w1; cases w1
    exact I2.prs a o (ch.sub a o w2)
  refine hQ (v :: ws) f2 as2 s2 P2 (G1.trans (G2.less H1.sub.ne)) I2 ?_ (S1.trans S2)
  refine .cons (R1.ok.mono G2.sub keep) (fun a q => ?_) R1.nd ⟨H1.sub, fun a q => ?_⟩ ch
  · obtain ⟨w1, w2, w3, w4, _⟩ := R1.fr a q
    obtain ⟨o', v1, v2⟩ := H1.at' a q
    exact ⟨G2.off a w1 (by rw [v2]; simp), w2, w3, w4⟩
  · obtain ⟨o', v1, v2⟩ := H1.at' a q
    exact ⟨o', keep a q o' v1, v2⟩
inductive Tgts (X : Fx) : List Nat → List Str → Prop
  | nil : Tgts X [] []
  | cons {i : Nat} {n : Str} {is : List Nat} {ns : List Str} : X.names[i]? = some (some n) → X.env.kindOf n = some .local → Tgts X is ns → Tgts X (i :: is) (n :: ns)
theorem Tgts.len {is : List Nat} {ns : List Str} (x : Tgts X is ns) : is.length = ns.length := by
  induction x with
  | nil => rfl
  | cons _ _ _ ih => simp [ih]
theorem wp_stores (hX : FxOk X) {A : Around} {f : Frz} {E : Value → Shared → Prop} {Q : Unit → Shared → Prop} : ∀ {is : List Nat} {ns : List Str} {ss : List Slot} {ws : List Value} {P P2 : Frz} {st : St} {vs : Nat → Value} {as : Nat → List Addr} {s : Shared} {v' : List Slot}
    (ts' : List (Value → Sem Unit)) (xs' : List Value), Tgts X is ns → Chain X f s.heap P ws ss P2 → Inv X P2 f st vs as s.heap → (∀ a o, X.hb.get? a = some o → P a = some o) → setSlots is ss st.v = some v' →
    (∀ vs' as' s', Inv X P f { st with v := v' } vs' as' s'.heap → Same s s' → wpAny (model X.prog X.w) A (assignInOrder ts' xs') Q E s') →
    wpAny (model X.prog X.w) A (assignInOrder ((ns.reverse.map fun n => bindName X.env n) ++ ts') (ws.reverse ++ xs')) Q E s := by
  intro is ns ss ws P P2 st vs as s v' ts' xs' T ch
  induction ch generalizing is ns v' ts' xs' with
  | nil =>
    intro I hb e h
    cases T with
    | nil => cases e; exact h vs as s I (.refl s)
    | cons _ _ _ => cases e
  | @cons P P1 P2 v sl ar ws ss ok fr nd H ch ih =>
    intro I hb e h
    cases T with
    | nil => cases e
    | @cons i n is ns hi hk T =>
      rw [setSlotsq2] at e
      cases e2 : setSlots is ss st.v with
      | none => rw [e2] at e; cases e
      | some v1 =>
        rw [e2] at e
        obtain ⟨q, rfl, hu⟩ := setSlot_some e
        have := ih (bindName X.env n :: ts') (v :: xs') T I (fun a o z => H.sub a o (hb a o z)) e2 fun vs1 as1 s1 I1 S1 => ?_
        · simpa using this
        · show wpAny _ _ (do holding xs' (bindName X.env n v); assignInOrder ts' xs') Q E s1
          have none1 : ∀ a ∈ ar, P1 a ≠ none := fun a q => by obtain ⟨o, w1, w2⟩ := H.at' a q; rw [w2]; simp
          have R : Res X P f as1 s1.heap v sl ar := ⟨ok.mono (fun _ _ e => e) fun a q o w => by
              obtain ⟨o', w1, w2⟩ := H.at' a q
              rw [w] at w1; cases w1
              exact I1.prs a o w2, fun a q => ⟨(fr a q).1, (fr a q).2.1, (fr a q).2.2.1, (fr a q).2.2.2, fun j z => none1 a q (I1.asF j a z).2.1⟩, nd⟩
          refine wpAny_bind (wpAny_holding (bindName_ (wp_store hX (I1.less H.sub hb) q hi hk R hu fun s2 I2 S2 => ?_)))
          exact h _ _ s2 I2 (S1.trans S2)
theorem keeps_ext {h h' : Heap} (e : Heap.ExtBut h.objs.size h h') : ∀ a o, h.get? a = some o → h'.get? a = some o := fun a o z => e a o (Nat.ne_of_lt (Heap.lt_size z)) z
theorem sok_asgT {ts es : List Expr} {q1 q2 : Nat} {tp ep pos : Pos} {is : List Nat} {ns : List Str} {l : AR} (hX : FxOk X) (T : Tgts X is ns) (h : SLOk k X es l) (hlen : es.length = ns.length)
    (hs : swapsWithSole [.Tuple ts q1 tp] (.Tuple es q2 ep) pos.line X.env = pure false) (hw : swappedStores [.Tuple ts q1 tp] (.Tuple es q2 ep) X.env = pure (some ns)) (hl : ∀ st ss st', l st = some (ss, st') → ss.length = ns.length) (hn3 : ns.length ≤ 3) :
    SOk k X (.Assign [.Tuple ts q1 tp] (.Tuple es q2 ep) pos) (asgTS is l) := by
  intro A P f st vs as s c st' hA I hg E Q hQ
  revert hg; refine bind_er2 fun ss st1 e1 hg => ?_
  dsimp only at hg
  cases e2 : setSlots is ss st1.v with
  | none => rw [e2] at hg; cases hg
  | some v' =>
    rw [e2] at hg
    cases hg
    refine Assign_Tuple_swapped ?_ hs hw
    refine wpAny_Tuple (h A P f st vs as s ss _ hA I e1 ep E _ fun ws f1 as1 s1 P1 G1 I1 ch S1 => ?_)
    have hwl : ws.length = ns.length := ch.len.trans (hl _ _ _ e1)
    refine ⟨by rw [sizeLine_eq]; (first | lia | omega), ?_⟩
    have keep1 : ∀ a o, s1.heap.get? a = some o → (s1.heap.push (seqObj "tuple" ws.toArray 0)).get? a = some o := fun a o e => Heap.get?_push_of_some _ e
    have ht : IsTup (s1.heap.push (seqObj "tuple" ws.toArray 0)) s1.heap.objs.size ws.toArray := ⟨_, Heap.get?_push_size _ rfl, rfl, _, rfl⟩
    have hsz : ns.length = ws.toArray.size := by simp [hwl]
    rw [hsz]
    refine unpackItems_tuple hA.hd ht fun h2 he => ?_
    have keep2 := fun a o e => keeps_ext he a o (keep1 a o e)
    have := wp_stores hX (A := A) (f := f1) (E := E) (Q := fun _ => Q .next) (P := P) (P2 := P1) (st := st1) (vs := vs) (as := as1) (s := { s1 with heap := h2 }) (v' := v') [] [] T (ch.mono (.refl ..) fun a o _ e => keep2 a o e) (I1.ext keep2) I.base e2 fun vs2 as2 s2 I2 S2 => ?_
    · simpa using this
    · exact wpAny_pure (hQ .next f1 vs2 as2 s2 G1 I2 .next (S1.trans ⟨S2.1, S2.2, S2.3⟩))
theorem names_cons {t : Expr} {ts : List Expr} {ns : List Str} {Z : Expr → List Str → Prop} (h : namesOf (t :: ts) = some ns) (k : ∀ x p l, namesOf ts = some l → Z (.Name x p) (x :: l)) : Z t ns := by
  have h : (match nameOf t with | some x => (match namesOf ts with | some l => some (x :: l) | none => none) | none => none) = some ns := h
  cases e0 : nameOf t with
  | none => rw [e0] at h; exact nomatch h
  | some x =>
    obtain ⟨p, hp⟩ := nameOf_some e0
    cases e : namesOf ts with
    | none => rw [e0, e] at h; exact nomatch h
    | some l => rw [e0, e] at h; rw [← Option.some.inj h, hp]; exact k x p l e
theorem names_cons2 {t : Expr} {ts : List Expr} {n : Str} {ns : List Str} {Z : Expr → Prop} (h : namesOf (t :: ts) = some (n :: ns)) (k : ∀ p, namesOf ts = some ns → Z (.Name n p)) : Z t := by
  refine names_cons (Z := fun t l => l = n :: ns → Z t) h (fun x p l e q => ?_) rfl
  obtain ⟨q1, q2⟩ := List.cons.inj q
  rw [q1]; exact k p (q2 ▸ e)
theorem names_ne {t : Expr} {ts : List Expr} {P : Prop} (h : namesOf (t :: ts) = some []) : P :=
  names_cons (Z := fun _ l => l = [] → P) h (fun _ _ _ _ q => nomatch q) rfl
theorem namesOf_len : ∀ {ts : List Expr} {ns : List Str}, namesOf ts = some ns → ts.length = ns.length
  | [], _, e => congrArg List.length (Option.some.inj e)
  | t :: ts, ns, e => by
    apply names_cons e
    intro x p l e2
    exact congrArg (· + 1) (namesOf_len e2)
theorem wp_fros (hX : FxOk X) {A : Around} {P f : Frz} {E : Value → Shared → Prop} {Q : Unit → Shared → Prop} : ∀ {ts : List Expr} {is : List Nat} {ns : List Str} {ws : List Value} {ds : List D} {st : St} {vs : Nat → Value} {as : Nat → List Addr} {s : Shared} {v' : List Slot},
    namesOf ts = some ns → Tgts X is ns → RepL f ws ds → Inv X P f st vs as s.heap → setAll is ds st.v = some v' →
    (∀ vs' as' s', Inv X P f { st with v := v' } vs' as' s'.heap → Same s s' → Q () s') → wpAny (model X.prog X.w) A (assignInOrder ((assignEach ts X.env).map (·.2)) ws) Q E s := by
  intro ts is ns ws ds st vs as s v' hn T
  induction T generalizing ts ws ds st vs as s v' with
  | nil =>
    intro r I e h
    cases ts with
    | nil =>
      cases r with
      | nil => cases e; exact wpAny_pure (h vs as s I (.refl s))
      | cons _ _ => cases e
    | cons t ts =>
      exact names_ne hn
  | @cons i n is ns hi hk T ih =>
    intro r I e h
    cases ts with
    | nil => cases hn
    | cons t ts =>
      apply names_cons2 hn
      intro p e3
      cases r with
      | nil => cases e
      | @cons v ws d ds r rs =>
        have e : (match setSlot st.v i (.fro d) with | some v' => setAll is ds v' | none => none) = some v' := e
        cases e2 : setSlot st.v i (.fro d) with
        | none => rw [e2] at e; cases e
        | some v1 =>
          rw [e2] at e
          obtain ⟨q, rfl, hu⟩ := setSlot_some e2
          show wpAny _ _ (do holding ws (assign (.Name n p) X.env v); assignInOrder ((assignEach ts X.env).map (·.2)) ws) Q E s
          refine wpAny_bind (wpAny_holding (assign_Name (wp_store hX I q hi hk (.fro r) hu fun s2 I2 S2 => ?_)))
          exact ih e3 rs I2 e fun vs3 as3 s3 I3 S3 => h vs3 as3 s3 I3 (S2.trans S3)
theorem each_names {env : Env} : ∀ {ts : List Expr} {ns : List Str}, namesOf ts = some ns → (assignEach ts env).length = ns.length ∧ (assignEach ts env).findIdx? (·.1) = none
  | [], _, e => by cases e; exact ⟨rfl, rfl⟩
  | t :: ts, ns, e => by
    apply names_cons e
    intro x p l e2
    have h := each_names (env := env) e2
    refine ⟨congrArg (· + 1) h.1, ?_⟩
    show List.findIdx? (·.1) ((false, assign (.Name x p) env) :: assignEach ts env) = none
    rw [List.findIdx?_cons, h.2]
    rfl
theorem setAll_len : ∀ {is : List Nat} {ds : List D} {v v' : List Slot}, setAll is ds v = some v' → is.length = ds.length
  | [], [], _, _, _ => rfl
  | [], _ :: _, _, _, e => by cases e
  | _ :: _, [], _, _, e => by cases e
  | i :: is, d :: ds, v, v', e => by
    rw [setAllq2] at e
    cases e1 : setSlot v i (.fro d) with
    | none => rw [e1] at e; cases e
    | some v1 => rw [e1] at e; exact congrArg (· + 1) (setAll_len e)
theorem wp_untup (hX : FxOk X) {A : Around} {P f : Frz} {E : Value → Shared → Prop} {Q : Unit → Shared → Prop} {ts : List Expr} {x1 : Nat} {pos : Pos} {is : List Nat} {ns : List Str} {t : Addr} {ws : Array Value} {ds : List D} {st : St} {vs : Nat → Value} {as : Nat → List Addr} {s : Shared} {v' : List Slot}
    (hA : A.handled = none) (hn : namesOf ts = some ns) (T : Tgts X is ns) (ht : IsTup s.heap t ws) (r : RepL f ws.toList ds) (I : Inv X P f st vs as s.heap) (e : setAll is ds st.v = some v')
    (h : ∀ vs' as' s', Inv X P f { st with v := v' } vs' as' s'.heap → Same s s' → Q () s') : wpAny (model X.prog X.w) A (assign (.Tuple ts x1 pos) X.env (.ref t)) Q E s := by
  obtain ⟨h1, h2⟩ := each_names (env := X.env) hn
  have hl := r.length
  rw [Array.length_toList] at hl
  refine assign_Tuple_tuple hA ht (by rw [h1, hl, ← setAll_len e, T.len]) h2 fun h' he => ?_
  exact wp_fros hX hn T r (I.ext (keeps_ext he)) e fun vs2 as2 s2 I2 S2 => h vs2 as2 s2 I2 (Same.trans (Same.mk' s h' s.toks) S2)
theorem Rep.tup_inv {f : Frz} {v : Value} {l : List D} (r : Rep f v (.tup l)) : ∃ a ws n, v = .ref a ∧ f a = some (seqObj "tuple" ws n) ∧ RepL f ws.toList l := by
  cases r with
  | tup e k r => exact ⟨_, _, _, rfl, e, r⟩
theorem sok_unp {ts : List Expr} {q1 : Nat} {tp pos : Pos} {e : Expr} {is : List Nat} {ns : List Str} {r : R} (hX : FxOk X) (hn : namesOf ts = some ns) (T : Tgts X is ns) (h : ROk k X e r)
    (hs : swapsWithSole [.Tuple ts q1 tp] e pos.line X.env = pure false) (hw : swappedStores [.Tuple ts q1 tp] e X.env = pure none) : SOk k X (.Assign [.Tuple ts q1 tp] e pos) (unpS is r) := by
  intro A P f st vs as s c st' hA I hg E Q hQ
  revert hg; refine bind_er2 fun d st1 e1 hg => ?_
  revert hg; refine bind_er fun ds e2 hg => ?_
  cases e3 : setAll is ds st1.v with
  | none => rw [e3] at hg; cases hg
  | some v' =>
    rw [e3] at hg
    cases hg
    cases d <;> cases e2
    refine Assign_Tuple (h.F A P f st vs as s _ st1 hA I e1 E _ fun v f1 as1 s1 G1 I1 r1 S1 => ?_) hs hw
    obtain ⟨a, ws, n, rfl, g, rr⟩ := r1.tup_inv
    exact wp_untup hX hA.hd hn T ⟨_, I1.frz _ _ g, rfl, _, rfl⟩ rr I1 e3 fun vs2 as2 s2 I2 S2 => hQ .next f1 vs2 as2 s2 G1 I2 .next (S1.trans S2)
end
end Mini
end
section
set_option autoImplicit false
set_option linter.unusedVariables false
set_option linter.unusedSimpArgs false
namespace Mini
set_option tactic.hygienic false
open PySem PySem.Calls PyProof.Rows
noncomputable def isTupE : Expr → Bool
  | .Tuple .. => true
  | _ => false
inductive Drawn (f0 : Frz) (tgt : Expr) (v : Value) (d : D) (h : Heap) : Prop
  | rep : Rep f0 v d → Drawn f0 tgt v d h
  | tup {T : Addr} {ws : Array Value} {l : List D} : isTupE tgt = true → v = .ref T → d = .tup l → IsTup h T ws → RepL f0 ws.toList l → Drawn f0 tgt v d h
structure Feed (prog : Program) (w : World) (tgt : Expr) (I : Addr) (wr : List Addr) (f0 : Frz) (ds : List D) (S : Nat → Heap → Prop) : Prop where
  frame : ∀ i h h', S i h → (∀ b ∈ wr, ∀ o, h.get? b = some o → h'.get? b = some o) → (∀ b o, f0 b = some o → h'.get? b = some o) → S i h'
  live : ∀ i h, S i h → ∀ b ∈ wr, ∃ o, h.get? b = some o
  item : ∀ (A : Around) (i : Nat) (d : D) (s : Shared), A.handled = none → S i s.heap → ds[i]? = some d → (∀ b o, f0 b = some o → s.heap.get? b = some o) → (∀ b ∈ wr, f0 b = none) →
    ∀ (E : Value → Shared → Prop) (K : Option Value → Shared → Prop),
      (∀ v s₁, (∀ Q : Unit → Shared → Prop, (∀ s', Drawn f0 tgt v d s'.heap → S (i + 1) s'.heap → (∀ b o, b ∉ wr → s.heap.get? b = some o → s'.heap.get? b = some o) → Same s s' → Q () s') →
        wpAny (model prog w) A (letOwnedTupleGo tgt (.ref I) v) Q E s₁) → K (some v) s₁) → wpAny (model prog w) A (pyNext (.ref I)) K E s
  done : ∀ (A : Around) (s : Shared), A.handled = none → S ds.length s.heap → ∀ (E : Value → Shared → Prop) (K : Option Value → Shared → Prop),
      (∀ s', (∀ b o, b ∉ wr → s.heap.get? b = some o → s'.heap.get? b = some o) → Same s s' → K none s') → wpAny (model prog w) A (pyNext (.ref I)) K E s
  self : ∀ (A : Around) (i : Nat) (s : Shared) (E : Value → Shared → Prop) (Q : Value → Shared → Prop), A.handled = none → S i s.heap → Q (.ref I) s → wpAny (model prog w) A (pyIter (.ref I)) Q E s
section
variable {k : Nat} {X : Fx} {g : Glb} {c : Cx} {mg mb : Str → Option Value}
structure Free (X : Fx) (P f : Frz) (as : Nat → List Addr) (b : Addr) : Prop where
  f : f b = none
  p : P b = none
  l : b ≠ X.env.locals
  d : X.dk ≠ some b
  a : ∀ i, b ∉ as i
theorem Inv.but {P f : Frz} {st : St} {vs : Nat → Value} {as : Nat → List Addr} {h h' : Heap} (I : Inv X P f st vs as h) {wr : List Addr} (Ap : ∀ b ∈ wr, Free X P f as b) (k : ∀ b o, b ∉ wr → h.get? b = some o → h'.get? b = some o) : Inv X P f st vs as h' where
  frz a o e := k a o (fun z => by rw [(Ap a z).f] at e; cases e) (I.frz a o e)
  prs a o e := k a o (fun z => by rw [(Ap a z).p] at e; cases e) (I.prs a o e)
  base := I.base
  len := I.len
  ns := by
    obtain ⟨m, ⟨o, es, ep, q, r⟩, b⟩ := I.ns
    exact ⟨m, ⟨o, es, ep, k _ _ (fun z => (Ap _ z).l rfl) q, r⟩, b⟩
  slot i s e := (I.slot i s e).mono (fun _ _ e => e) fun a ha o e => k a o (fun z => (Ap a z).a i ha) e
  cel i x e1 e2 e3 := by
    obtain ⟨cc, o, h1, h2, h3, h4⟩ := I.cel i x e1 e2 e3
    exact ⟨cc, o, h1, k _ _ (fun z => (Ap cc z).a i (by rw [h4]; simp)) h2, h3, h4⟩
  out := I.out
  deck a e := by
    obtain ⟨ws, n, g, r⟩ := I.deck a e
    exact ⟨ws, n, k _ _ (fun z => (Ap a z).d e) g, r⟩
  locF := I.locF
  dkF := I.dkF
  asF := I.asF
  asN := I.asN
  asD := I.asD
theorem Sub.none {P P' : Frz} (k : Sub P P') {a : Addr} (h : P' a = none) : P a = none := by
  cases e : P a with
  | none => rfl
  | some o => rw [k a o e] at h; cases h
theorem Res.less {P P' f : Frz} {as : Nat → List Addr} {h : Heap} {v : Value} {s : Slot} {ar : List Addr} (R : Res X P' f as h v s ar) (k : Sub P P') : Res X P f as h v s ar :=
  ⟨R.ok, fun a q => ⟨(R.fr a q).1, k.none (R.fr a q).2.1, (R.fr a q).2.2⟩, R.nd⟩
theorem CtlOk.less {P P' f : Frz} {as : Nat → List Addr} {h : Heap} {c : Ctl} {fl : Flow} (C : CtlOk X P' f as h c fl) (k : Sub P P') : CtlOk X P f as h c fl := by
  cases C with
  | next => exact .next
  | brk => exact .brk
  | ret R => exact .ret (R.less k)
theorem Free.later {P P' f f' : Frz} {st : St} {vs : Nat → Value} {as as' : Nat → List Addr} {h : Heap} {b : Addr} (F : Free X P f as b) (hb : P' b ≠ none) (G : Grow P' f f') (I : Inv X P' f' st vs as' h) : Free X P f' as' b :=
  ⟨G.off b F.f hb, F.p, F.l, F.d, fun i q => hb (I.asF i b q).2.1⟩
theorem two_len {ts : List Expr} {q : Nat} {p : Pos} (h : tgtTwo (.Tuple ts q p) = true) : 2 ≤ ts.length := Nat.le_of_ble_eq_true h
theorem Tgts.oneE {is : List Nat} {x : Str} {Z : List Nat → Prop} (T : Tgts X is [x]) (k : ∀ i, X.names[i]? = some (some x) → X.env.kindOf x = some .local → Z [i]) : Z is :=
  match is, T with
  | [_], .cons hi hk .nil => k _ hi hk
theorem bindT_two {is : List Nat} {d : D} {v v' : List Slot} {P : Prop} (e : bindT is d v = some v') (h : 2 ≤ is.length) (k : ∀ l, d = .tup l → setAll is l v = some v' → P) : P :=
  match is, h with
  | i :: j :: is, _ => by
    cases d with
    | tup l => exact k l rfl e
    | _ => exact nomatch e
theorem Drawn.nameE {f0 : Frz} {x : Str} {p : Pos} {v : Value} {d : D} {h : Heap} (Dr : Drawn f0 (.Name x p) v d h) : Rep f0 v d := by
  cases Dr with
  | rep r => exact r
  | tup ht => exact nomatch ht
theorem Drawn.tupE {f0 : Frz} {tgt : Expr} {v : Value} {l : List D} {h : Heap} {P : Prop} (Dr : Drawn f0 tgt v (.tup l) h) (k1 : Rep f0 v (.tup l) → P) (k2 : ∀ T2 ws, v = .ref T2 → IsTup h T2 ws → RepL f0 ws.toList l → P) : P := by
  generalize hd : D.tup l = d at Dr
  cases Dr with
  | rep r => rw [← hd] at r; exact k1 r
  | tup h2 h3 h4 h5 h6 => rw [h4] at hd; exact k2 _ _ h3 h5 (D.tup.inj hd ▸ h6)
theorem wp_target (hX : FxOk X) {A : Around} {P f f0 : Frz} {E : Value → Shared → Prop} {Q : Unit → Shared → Prop} {tgt : Expr} {is : List Nat} {ns : List Str} {v : Value} {d : D} {st : St} {vs : Nat → Value} {as : Nat → List Addr} {s : Shared} {v' : List Slot}
    (hA : A.handled = none) (T : Tgts X is ns) (hn : tgtsOf tgt = some ns) (h2 : tgtTwo tgt = true) (Dr : Drawn f0 tgt v d s.heap) (sb : Sub f0 f) (I : Inv X P f st vs as s.heap) (e : bindT is d st.v = some v')
    (h : ∀ vs' as' s', Inv X P f { st with v := v' } vs' as' s'.heap → Same s s' → Q () s') : wpAny (model X.prog X.w) A (assign tgt X.env v) Q E s := by
  cases tgt with
  | Name x p =>
    have hn : [x] = ns := Option.some.inj hn
    rw [← hn] at T
    revert e
    apply T.oneE
    intro i hi hk e
    obtain ⟨q, rfl, hu⟩ := setSlot_some e
    exact assign_Name (wp_store hX I q hi hk (.fro (Dr.nameE.mono sb)) hu fun s2 I2 S2 => h _ _ s2 I2 S2)
  | Tuple ts q1 p =>
    have hn : namesOf ts = some ns := hn
    have htwo : 2 ≤ is.length := by rw [T.len, ← namesOf_len hn]; exact two_len h2
    refine bindT_two e htwo fun l hd e => ?_
    rw [hd] at Dr
    refine Dr.tupE (fun r => ?_) fun T2 ws hv h5 h6 => ?_
    · obtain ⟨a, ws, n, rfl, ga, rr⟩ := r.tup_inv
      exact wp_untup hX hA hn T ⟨_, I.frz _ _ (sb _ _ ga), rfl, _, rfl⟩ (rr.mono sb) I e h
    · rw [hv]
      exact wp_untup hX hA hn T h5 (h6.mono sb) I e h
  | _ => cases hn
noncomputable def IOk (k : Nat) (X : Fx) (it tgt : Expr) (g : LR) : Prop :=
  ∀ (A : Around) (P f : Frz) (st : St) (vs : Nat → Value) (as : Nat → List Addr) (s : Shared) (ds : List D) (st' : St), AOk k A → Inv X P f st vs as s.heap → g st = some (ds, st') →
    ∀ (E : Value → Shared → Prop) (Q : Value → Shared → Prop),
      (∀ I f' as' s' wr S, Grow P f f' → Inv X P f' st' vs as' s'.heap → Feed X.prog X.w tgt I wr f' ds S → S 0 s'.heap → (∀ b ∈ wr, Free X P f' as' b) → wr.Nodup → ds.length ≤ lim → Same s s' → Q (.ref I) s') →
      wpAny (model X.prog X.w) A (eval it X.env) (fun x s₁ => wpAny (model X.prog X.w) A (pyIter x) Q E s₁) E s
theorem sok_for {tgt it : Expr} {body : List Stmt} {pos : Pos} {is : List Nat} {ns : List Str} {src : LR} {b : St → Option (Ctl × St)} (hX : FxOk X) (T : Tgts X is ns) (hn : tgtsOf tgt = some ns) (h2 : tgtTwo tgt = true)
    (hi : IOk k X it tgt src) (hb : SsOk k X body b) (hs : ∀ x, foldedSetIterable it X.env x = pure x) : SOk k X (.For tgt it body [] pos) (forS is src b) := by
  intro A P f st vs as s c stE hA I hg E Q hQ
  revert hg; refine bind_er2 fun ds st1 e1 hg => ?_
  refine wpAny_For (hi A P f st vs as s ds st1 hA I e1 E _ fun It f1 as1 s1 wr S G1 I1 Fd S0 Ap nd hlen Sm1 => ?_) hs
  refine codeAny_forLoop_any (fun n s' => ∃ i st' f' vs' as', n + i = ds.length ∧ i ≤ ds.length ∧ forL is b (ds.drop i) st' = some (c, stE) ∧ Grow P f1 f' ∧ Inv X P f' st' vs' as' s'.heap ∧ S i s'.heap ∧ (∀ b ∈ wr, Free X P f' as' b) ∧ Same s1 s') ?_ ds.length
    ⟨0, st1, f1, vs, as1, rfl, Nat.zero_le _, hg, .refl .., I1, S0, Ap, .refl s1⟩
  rintro n s' ⟨i, st', f', vs', as', hni, hile, hrun, G, J, Si, Ap', Sm⟩
  have fz : ∀ b o, f1 b = some o → s'.heap.get? b = some o := fun b o e => J.frz b o (G.sub b o e)
  by_cases hlt : i < ds.length
  · have hd : ds[i]? = some ds[i] := List.getElem?_eq_getElem hlt
    have hdrop : ds.drop i = ds[i] :: ds.drop (i + 1) := List.drop_eq_getElem_cons hlt
    rw [hdrop] at hrun
    simp only [forLq1, forLq2] at hrun
    revert hrun; refine bind_er fun v' eb hrun => ?_
    revert hrun; refine bind_er2 fun c2 st4 ec hrun => ?_
    refine Fd.item A i ds[i] s' hA.hd Si hd fz (fun b q => (Ap b q).f) _ _ fun v s₁ hgo => hgo _ fun s2 Dr S1 kp Sm2 => ?_
    have J2 := J.but Ap' kp
    obtain ⟨P', H, J2'⟩ := J2.holdAll wr (fun a q => ⟨(Ap' a q).p, (Ap' a q).l, (Ap' a q).d, (Ap' a q).a, Fd.live _ _ S1 a q⟩) nd
    have hne : ∀ b ∈ wr, P' b ≠ none := fun b q => by obtain ⟨o, w1, w2⟩ := H.at' b q; rw [w2]; simp
    refine wp_target hX hA.hd T hn h2 Dr G.sub J2' eb fun vs3 as3 s3 J3 Sm3 => ?_
    refine hb A P' f' _ vs3 as3 s3 c2 st4 hA J3 ec _ _ fun fl f4 vs4 as4 s4 G4 J4 C4 Sm4 => ?_
    have S4 : S (i + 1) s4.heap := by
      refine Fd.frame _ _ _ S1 (fun b q o e => ?_) fun b o e => J4.frz b o (G4.sub b o (G.sub b o e))
      obtain ⟨o', w1, w2⟩ := H.at' b q
      rw [e] at w1; cases w1
      exact J4.prs b o w2
    have Ap4 : ∀ b ∈ wr, Free X P f4 as4 b := fun b q => (Ap' b q).later (hne b q) G4 J4
    have G5 : Grow P f' f4 := G4.less H.sub.ne
    have J5 := J4.less H.sub I.base
    have Sm5 := ((Sm.trans Sm2).trans Sm3).trans Sm4
    cases C4 with
    | next => exact ⟨n - 1, by (first | lia | omega), i + 1, st4, f4, vs4, as4, by (first | lia | omega), by (first | lia | omega), hrun, G.trans G5, J5, S4, Ap4, Sm5⟩
    | brk => cases hrun; exact hQ .next f4 vs4 as4 s4 (G1.trans (G.trans G5)) J5 .next (Sm1.trans Sm5)
    | ret R => cases hrun; exact hQ _ f4 vs4 as4 s4 (G1.trans (G.trans G5)) J5 (.ret (R.less H.sub)) (Sm1.trans Sm5)
  · have hie : i = ds.length := Nat.le_antisymm hile (Nat.le_of_not_lt hlt)
    rw [List.drop_eq_nil_of_le (Nat.le_of_not_lt hlt)] at hrun
    cases hrun
    refine Fd.done A s' hA.hd (hie ▸ Si) _ _ fun s2 kp Sm2 => ?_
    refine wpAny_execs_nil ?_
    exact hQ .next f' vs' as' s2 (G1.trans G) (J.but Ap' kp) .next ((Sm1.trans Sm).trans Sm2)
theorem sok_while {t : Expr} {body : List Stmt} {pos : Pos} {r : R} {b : St → Option (Ctl × St)} {n : Nat} (ht : ROk k X t r) (hb : SsOk k X body b) : SOk k X (.While t body [] pos) (whileL r.tst b n) := by
  intro A P f st vs as s c stE hA I hg E Q hQ
  refine wpAny_While (codeAny_whileLoop (fun n s' => ∃ st' f' vs' as', whileL r.tst b n st' = some (c, stE) ∧ Grow P f f' ∧ Inv X P f' st' vs' as' s'.heap ∧ Same s s') ?_ n ⟨st, f, vs, as, hg, .refl .., I, .refl s⟩)
  rintro n s' ⟨st', f', vs', as', hrun, G, J, Sm⟩
  cases n with
  | zero => cases hrun
  | succ n =>
    simp only [whileLq1, whileLq2] at hrun
    revert hrun; refine bind_er2 fun b1 st1 e1 hrun => ?_
    refine ht.tst A P f' st' vs' as' s' b1 st1 hA J e1 _ _ fun f2 as2 s2 G2 I2 S2 => ?_
    cases b1 with
    | false =>
      cases hrun
      exact wpAny_execs_nil (hQ .next f2 vs' as2 s2 (G.trans G2) I2 .next (Sm.trans S2))
    | true =>
      revert hrun; refine bind_er2 fun c2 st4 ec hrun => ?_
      refine hb A P f2 st1 vs' as2 s2 c2 st4 hA I2 ec _ _ fun fl f3 vs3 as3 s3 G3 I3 C3 S3 => ?_
      cases C3 with
      | next => exact ⟨n, Nat.lt_succ_self n, st4, f3, vs3, as3, hrun, (G.trans G2).trans G3, I3, (Sm.trans S2).trans S3⟩
      | brk => cases hrun; exact hQ .next f3 vs3 as3 s3 ((G.trans G2).trans G3) I3 .next ((Sm.trans S2).trans S3)
      | ret R => cases hrun; exact hQ _ f3 vs3 as3 s3 ((G.trans G2).trans G3) I3 (.ret R) ((Sm.trans S2).trans S3)
end
end Mini
end
section
set_option autoImplicit false
set_option linter.unusedVariables false
set_option linter.unusedSimpArgs false
namespace Mini
set_option tactic.hygienic false
open PySem PySem.Calls PyProof.Rows
section
variable {k : Nat} {X : Fx} {g : Glb} {c : Cx} {mg mb : Str → Option Value}
theorem letgo_list {prog : Program} {w : World} {A : Around} {E : Value → Shared → Prop} {s : Shared} {Q : Unit → Shared → Prop} {tgt : Expr} {I l : Addr} {i : Nat} {v : Value} (ht : tgtTwo tgt = true) (hit : s.heap.IsListIter I l i) (hQ : Q () s) :
    wpAny (model prog w) A (letOwnedTupleGo tgt (.ref I) v) Q E s := by
  cases tgt with
  | Name => exact wpAny_pure hQ
  | Tuple ts q p =>
    cases v with
    | ref T => exact wpAny_letOwnedTupleGo_listiter hit hQ
    | _ => exact wpAny_pure hQ
  | _ => cases ht
theorem Feed.list {prog : Program} {w : World} {tgt : Expr} (ht : tgtTwo tgt = true) {I a : Addr} {f0 : Frz} {ws : Array Value} {n : Nat} {l : List D} (hne : a ≠ I) (hf : f0 a = some (seqObj "list" ws n)) (rr : RepL f0 ws.toList l) :
    Feed prog w tgt I [I] f0 l (fun i h => h.IsListIter I a i ∧ h.IsList a ws) := by
  have hn := rr.length
  rw [Array.length_toList] at hn
  exact {
    frame := fun i h h' st kp kf => ⟨st.1.at fun o e => kp I (by simp) o e, ⟨_, kf _ _ hf, rfl, _, rfl⟩⟩
    live := fun i h st b q => by
      simp at q; subst q
      obtain ⟨o, e, _⟩ := st.1
      exact ⟨o, e⟩
    item := fun A i d s hh st hd kf hw E K hK => by
      have hi : i < ws.size := by rw [hn]; exact lt_of_get hd
      refine (Walks.list hh I a hne ws).item i s _ E hi st fun v h' tk hP hS hk => ?_
      refine hK v _ fun Q hq => letgo_list ht hS.1 (hq _ ?_ hS hk ⟨rfl, rfl, rfl⟩)
      obtain ⟨y, e1, r1⟩ := rr.get i hd
      rw [Array.getElem?_toList, hP] at e1
      cases e1
      exact .rep r1
    done := fun A s hh st E K hK => by
      refine (Walks.list hh I a hne ws).done s _ E (by rw [hn]; exact st) fun h' tk hk => ?_
      exact hK _ hk ⟨rfl, rfl, rfl⟩
    self := fun A i s E Q hh st hQ => (Walks.list hh I a hne ws).self i s Q E st hQ }
theorem Feed.range {prog : Program} {w : World} {x : Str} {p : Pos} {I : Addr} {f0 : Frz} {n : Nat} :
    Feed prog w (.Name x p) I [I] f0 ((List.range n).map fun i => D.int (i : Nat)) (fun i h => IsRangeIter h I (0 + (i : Nat) * 1) ((n : Int) - (i : Nat)) 1) where
  frame i h h' st kp kf := kp I (by simp) _ st
  live i h st b q := by simp at q; subst q; exact ⟨_, st⟩
  item A i d s hh st hd kf hw E K hK := by
    have hi : i < n := by have := lt_of_get hd; simpa using this
    refine (Walks.range hh I 0 1 n).item i s _ E hi st fun v h' tk hP hS hk => ?_
    refine hK v _ fun Q hq => wpAny_pure (hq _ ?_ hS hk ⟨rfl, rfl, rfl⟩)
    obtain ⟨t, rfl⟩ := hP
    have : d = .int (0 + (i : Int) * 1) := by
      rw [List.getElem?_map, List.getElem?_range hi] at hd
      simp at hd
      rw [← hd]; congr 1; (first | lia | omega)
    rw [this]
    exact .rep (.int _ t)
  done A s hh st E K hK := by
    refine (Walks.range hh I 0 1 n).done s _ E (by simpa using st) fun h' tk hk => ?_
    exact hK _ hk ⟨rfl, rfl, rfl⟩
  self A i s E Q hh st hQ := (Walks.range hh I 0 1 n).self i s Q E st hQ
theorem tup_letgo {tgt : Expr} (ht : tgtTwo tgt = true) (h2 : isTupE tgt = true) : ∃ ts q p, tgt = .Tuple ts q p := by
  cases tgt with
  | Tuple ts q p => exact ⟨ts, q, p, rfl⟩
  | _ => cases h2
theorem Feed.enum {prog : Program} {w : World} {ts : List Expr} {q : Nat} {p : Pos} {e it a : Addr} {f0 : Frz} {ws : Array Value} {n : Nat} {l : List D} (hei : e ≠ it) (hae : a ≠ e) (hai : a ≠ it) (hf : f0 a = some (seqObj "list" ws n)) (rr : RepL f0 ws.toList l) :
    Feed prog w (.Tuple ts q p) e [e, it] f0 (enumD l) (fun i h => (∃ old, IsEnum h e it i old) ∧ h.IsListIter it a i ∧ h.IsList a ws) := by
  have hn := rr.length
  rw [Array.length_toList] at hn
  have hlen : (enumD l).length = l.length := by simp [enumD]
  exact {
    frame := fun i h h' st kp kf => by
      obtain ⟨⟨old, he⟩, hit, hl⟩ := st
      exact ⟨⟨old, kp e (by simp) _ he⟩, hit.at fun o x => kp it (by simp) o x, ⟨_, kf _ _ hf, rfl, _, rfl⟩⟩
    live := fun i h st b q => by
      obtain ⟨⟨old, he⟩, ⟨o, ho, _⟩, hl⟩ := st
      simp at q
      rcases q with rfl | rfl
      · exact ⟨_, he⟩
      · exact ⟨_, ho⟩
    item := fun A i d s hh st hd kf hw E K hK => by
      have hi : i < ws.size := by rw [hn, ← hlen]; exact lt_of_get hd
      have W := WalksT.enumerate (prog := prog) (w := w) hh e it a hei hae hai ws
      refine W.item i s _ E hi st fun T vals h' tk hP hT hIT hM hk => ?_
      refine hK _ _ fun Q hq => ?_
      have hap := W.apart i T h' hM
      refine W.go ts q p i T _ _ E hM fun h2 hS hk2 => hq _ ?_ hS (fun b o hb e => hk2 b o hb (hk b o hb e)) ⟨rfl, rfl, rfl⟩
      obtain ⟨t, x, e1, rfl⟩ := hP
      obtain ⟨y, hy⟩ : ∃ y, l[i]? = some y := ⟨l[i]'(by (first | lia | omega)), List.getElem?_eq_getElem _⟩
      have hdd : d = .tup [.int (i : Nat), y] := by
        simp only [enumD, List.getElem?_map, List.getElem?_zipIdx, hy] at hd
        simp at hd
        exact hd.symm
      obtain ⟨u, e2, r2⟩ := rr.get i hy
      rw [Array.getElem?_toList, e1] at e2
      cases e2
      obtain ⟨o, ho, hc, m, hd'⟩ := hIT
      exact .tup rfl rfl hdd ⟨o, hk2 _ _ hap ho, hc, m, hd'⟩ (.cons (.int _ t) (.cons r2 .nil))
    done := fun A s hh st E K hK => by
      have W := WalksT.enumerate (prog := prog) (w := w) hh e it a hei hae hai ws
      refine W.done s _ E (by rw [hn, ← hlen]; exact st) fun h' tk hk => ?_
      exact hK _ hk ⟨rfl, rfl, rfl⟩
    self := fun A i s E Q hh st hQ => (WalksT.enumerate (prog := prog) (w := w) hh e it a hei hae hai ws).self i s Q E st hQ }
theorem Feed.zip {prog : Program} {w : World} {ts : List Expr} {q : Nat} {p : Pos} {z TI TO i1 i2 a b : Addr} {f0 : Frz} {ws us : Array Value} {n m : Nat} {l r : List D} (D : ZipApart z TI TO i1 i2 a b) (hf : f0 a = some (seqObj "list" ws n)) (rr : RepL f0 ws.toList l)
    (hg : f0 b = some (seqObj "list" us m)) (rq : RepL f0 us.toList r) :
    Feed prog w (.Tuple ts q p) z [z, TI, TO, i1, i2] f0 (zipD l r) (fun i h => IsZip h z TI TO .none ∧ IsPair h TI (.ref i1) (.ref i2) ∧ (∃ a b, IsPair h TO a b) ∧ h.IsListIter i1 a i ∧ h.IsListIter i2 b i ∧ h.IsList a ws ∧ h.IsList b us) := by
  have hn := rr.length
  have hm := rq.length
  rw [Array.length_toList] at hn hm
  have hlen : (zipD l r).length = min ws.size us.size := by simp [zipD, hn, hm]
  have wide : ∀ c, c ∉ [z, TI, TO, i1, i2] → c ∉ [z, TO, i1, i2] := fun c h h2 => h (by simp at h2 ⊢; rcases h2 with h | h | h | h <;> simp [h])
  exact {
    frame := fun i h h' st kp kf => by
      obtain ⟨hz, hTI, ⟨a', b', hTO⟩, h1, h2, hl1, hl2⟩ := st
      exact ⟨kp z (by simp) _ hz, kp TI (by simp) _ hTI, ⟨a', b', kp TO (by simp) _ hTO⟩, h1.at fun o e => kp i1 (by simp) o e, h2.at fun o e => kp i2 (by simp) o e, ⟨_, kf _ _ hf, rfl, _, rfl⟩, ⟨_, kf _ _ hg, rfl, _, rfl⟩⟩
    live := fun i h st c q => by
      obtain ⟨hz, hTI, ⟨a', b', hTO⟩, ⟨o1, h1, _⟩, ⟨o2, h2, _⟩, hl1, hl2⟩ := st
      simp at q
      rcases q with rfl | rfl | rfl | rfl | rfl
      · exact ⟨_, hz⟩
      · exact ⟨_, hTI⟩
      · exact ⟨_, hTO⟩
      · exact ⟨_, h1⟩
      · exact ⟨_, h2⟩
    item := fun A i d s hh st hd kf hw E K hK => by
      have hi : i < min ws.size us.size := by rw [← hlen]; exact lt_of_get hd
      have W := WalksT.zip2 (prog := prog) (w := w) hh z TI TO i1 i2 a b D ws us
      refine W.item i s _ E hi st fun T vals h' tk hP hT hIT hM hk => ?_
      refine hK _ _ fun Q hq => ?_
      have hap := W.apart i T h' hM
      refine W.go ts q p i T _ _ E hM fun h2 hS hk2 => hq _ ?_ hS (fun b o hb e => hk2 b o (wide b hb) (hk b o (wide b hb) e)) ⟨rfl, rfl, rfl⟩
      obtain ⟨x, x2, e1, e2, rfl⟩ := hP
      obtain ⟨y, hy⟩ : ∃ y, l[i]? = some y := ⟨l[i]'(by (first | lia | omega)), List.getElem?_eq_getElem _⟩
      obtain ⟨y2, hy2⟩ : ∃ y, r[i]? = some y := ⟨r[i]'(by (first | lia | omega)), List.getElem?_eq_getElem _⟩
      have hdd : d = .tup [y, y2] := by
        simp only [zipD, List.getElem?_map, List.getElem?_zip_eq_some] at hd
        obtain ⟨⟨p1, p2⟩, w1, w2⟩ := Option.map_eq_some_iff.mp hd
        rw [List.getElem?_zip_eq_some] at w1
        simp only at w1
        rw [hy, hy2] at w1
        simp at w1
        rw [← w2, w1.1, w1.2]
      obtain ⟨u, e3, r3⟩ := rr.get i hy
      obtain ⟨u2, e4, r4⟩ := rq.get i hy2
      rw [Array.getElem?_toList, e1] at e3
      rw [Array.getElem?_toList, e2] at e4
      cases e3; cases e4
      obtain ⟨o, ho, hc, m, hd'⟩ := hIT
      exact .tup rfl rfl hdd ⟨o, hk2 _ _ hap ho, hc, m, hd'⟩ (.cons r3 (.cons r4 .nil))
    done := fun A s hh st E K hK => by
      have W := WalksT.zip2 (prog := prog) (w := w) hh z TI TO i1 i2 a b D ws us
      refine W.done s _ E (by rw [← hlen]; exact st) fun h' tk hk => ?_
      exact hK _ (fun b o hb e => hk b o (wide b hb) e) ⟨rfl, rfl, rfl⟩
    self := fun A i s E Q hh st hQ => (WalksT.zip2 (prog := prog) (w := w) hh z TI TO i1 i2 a b D ws us).self i s Q E st hQ }
theorem RepL.ofGet {f : Frz} : ∀ {vs : List Value} {ds : List D}, vs.length = ds.length → (∀ (i : Nat) (v : Value) (d : D), vs[i]? = some v → ds[i]? = some d → Rep f v d) → RepL f vs ds
  | [], [], _, _ => .nil
  | [], _ :: _, e, _ => by cases e
  | _ :: _, [], e, _ => by cases e
  | v :: vs, d :: ds, e, h => .cons (h 0 v d rfl rfl) (RepL.ofGet (by simpa using e) fun i v d e1 e2 => h (i + 1) v d (by simpa using e1) (by simpa using e2))
theorem Inv.freshB {P f : Frz} {st : St} {vs : Nat → Value} {as : Nat → List Addr} {h : Heap} (I : Inv X P f st vs as h) {b : Addr} (hb : h.objs.size ≤ b) : Free X P f as b :=
  let ⟨h1, h2, h3, h4, h5⟩ := I.fresh hb
  ⟨h1, h2, h3, h4, h5⟩
theorem iok_val {it tgt : Expr} {r : R} (ht : tgtTwo tgt = true) (h : ROk k X it r) : IOk k X it tgt (fun st => do let (d, st1) ← r.F st; let l ← seqD d; some (l, st1)) := by
  intro A P f st vs as s ds st' hA I hg E Q hQ
  revert hg; refine bind_er2 fun d st1 e1 hg => ?_
  revert hg; refine bind_er fun l e2 hg => ?_
  cases hg
  cases d <;> cases e2
  refine h.F A P f st vs as s _ _ hA I e1 E _ fun v f1 as1 s1 G1 I1 r1 S1 => ?_
  cases r1 with
  | @list a ws n _ e k' rr =>
    have ga := I1.frz _ _ e
    refine wpAny_pyIter_list (items := ws) ⟨_, ga, rfl, _, rfl⟩ ?_
    have keep : ∀ b o, s1.heap.get? b = some o → (s1.heap.push { cls := .type "list_iterator", data := .fields #[.ref a, .int 0 0] }).get? b = some o := fun b o e => Heap.get?_push_of_some _ e
    refine hQ s1.heap.objs.size f1 as1 _ [s1.heap.objs.size] _ G1 (I1.ext keep) (Feed.list ht (Nat.ne_of_lt (Heap.lt_size ga)) e rr) ⟨⟨_, Heap.get?_push_size _ rfl, rfl, rfl⟩, ⟨_, keep _ _ ga, rfl, _, rfl⟩⟩ (fun b q => ?_) (by simp) k' (S1.trans ⟨rfl, rfl, rfl⟩)
    simp at q; subst q
    exact I1.freshB (Nat.le_refl _)
theorem wp_callT1 {A : Around} {E : Value → Shared → Prop} {Q : Value → Shared → Prop} {s : Shared} {P f : Frz} {st : St} {vs : Nat → Value} {as : Nat → List Addr} {fn : Str} {p pos : Pos} {x : Expr} {id : String}
    (G : Gnd g X.hb mg mb) (hE : EnvOk X) (hC : CxOk c X) (I : Inv X P f st vs as s.heap) (hx : c.isG fn = true) (hp : (fn, .type id) ∈ bootV) (hs : notStar x = true)
    (h : wpAny (model X.prog X.w) A (eval x X.env) (fun v s₁ => wpAny (model X.prog X.w) A (call (.type id) [v]) Q E s₁) E s) : wpAny (model X.prog X.w) A (eval (.Call (.Name fn p) [x] [] pos) X.env) Q E s := by
  refine wpAny_Call_NameR (wp_builtin G hE hC I hx hp ?_)
  have ht : backTo pos (starEach [x] X.env) = [(false, eval x X.env)] := by rw [starEach_cons hs]; rfl
  rw [ht]
  exact PySem.callWith_type rfl (evalArgs_plain (spliced_cons (wpAny_mono h (fun v s₁ h₁ => spliced_nil h₁) fun _ _ x => x)))
theorem wp_callT2 {A : Around} {E : Value → Shared → Prop} {Q : Value → Shared → Prop} {s : Shared} {P f : Frz} {st : St} {vs : Nat → Value} {as : Nat → List Addr} {fn : Str} {p pos : Pos} {x y : Expr} {id : String}
    (G : Gnd g X.hb mg mb) (hE : EnvOk X) (hC : CxOk c X) (I : Inv X P f st vs as s.heap) (hx : c.isG fn = true) (hp : (fn, .type id) ∈ bootV) (hs : notStar x = true) (hs' : notStar y = true)
    (h : wpAny (model X.prog X.w) A (eval x X.env) (fun v s₁ => wpAny (model X.prog X.w) A (eval y X.env) (fun u s₂ => wpAny (model X.prog X.w) A (call (.type id) [v, u]) Q E s₂) E s₁) E s) : wpAny (model X.prog X.w) A (eval (.Call (.Name fn p) [x, y] [] pos) X.env) Q E s := by
  refine wpAny_Call_NameR (wp_builtin G hE hC I hx hp ?_)
  have ht : backTo pos (starEach [x, y] X.env) = [(false, eval x X.env), (false, eval y X.env)] := by rw [starEach_cons hs, starEach_cons hs']; rfl
  rw [ht]
  exact PySem.callWith_type rfl (evalArgs_plain (spliced_cons (wpAny_mono h (fun v s₁ h₁ => spliced_cons (wpAny_mono h₁ (fun u s₂ h₂ => spliced_nil h₂) fun _ _ x => x)) fun _ _ x => x)))
set_option tactic.hygienic true in
theorem rangeD_some {d : D} {l : List D} (h : rangeD d = some l) : ∃ n : Nat, d = .int n ∧ n ≤ lim ∧ l = (List.range n).map fun i => .int (i : Nat) := by
  cases d with
  | int i =>
    simp only [rangeD] at h
    split at h
    · rename_i q
      cases h
      obtain ⟨n, rfl⟩ := Int.eq_ofNat_of_zero_le q.1
      exact ⟨n, rfl, by (first | lia | omega), rfl⟩
    · cases h
  | _ => cases h
theorem iok_range {fn x0 : Str} {p p0 pos : Pos} {x : Expr} {r : R} (G : Gnd g X.hb mg mb) (hE : EnvOk X) (hC : CxOk c X) (hx : c.isG fn = true) (hf : fn = ("range" : Str)) (hs : notStar x = true) (h : ROk k X x r) :
    IOk k X (.Call (.Name fn p) [x] [] pos) (.Name x0 p0) (fun st => do let (d, st1) ← r.F st; let l ← rangeD d; some (l, st1)) := by
  intro A P f st vs as s ds st' hA I hg E Q hQ
  revert hg; refine bind_er2 fun d st1 e1 hg => ?_
  revert hg; refine bind_er fun l e2 hg => ?_
  cases hg
  obtain ⟨n, rfl, hn, rfl⟩ := rangeD_some e2
  subst hf
  refine wp_callT1 G hE hC I hx (id := "range") (by simp [bootV]) hs (h.F A P f st vs as s _ _ hA I e1 E _ fun v f1 as1 s1 G1 I1 r1 S1 => ?_)
  cases r1 with
  | int _ t =>
    refine call_range_1 ?_
    have hn' := hn
    unfold lim at hn
    have hsm : Builtin.Range.small 0 (n : Int) 1 = true := small_one (by (first | lia | omega)) (by (first | lia | omega)) (by (first | lia | omega)) (by (first | lia | omega))
    refine wpAny_pyIter_range (a := 0) (b := n) (c := 1) (t := s1.toks) (u := t) (v := s1.toks + 1) (Heap.get?_push_size _ rfl) hsm ?_
    have hrs : Builtin.Range.rangeSize 0 (n : Int) 1 = n := by rw [rangeSize_one]; split <;> (first | lia | omega)
    rw [hrs]
    generalize hh1 : s1.heap.push { cls := .type "range", data := .fields #[.int 0 s1.toks, .int (n : Int) t, .int 1 (s1.toks + 1)] } = h1
    have keep1 : ∀ b o, s1.heap.get? b = some o → h1.get? b = some o := fun b o e => by rw [← hh1]; exact Heap.get?_push_of_some _ e
    have keep : ∀ b o, s1.heap.get? b = some o → (h1.push { cls := .type "range_iterator", data := .fields #[rawInt 0, rawInt (n : Int), rawInt 1] }).get? b = some o := fun b o e => Heap.get?_push_of_some _ (keep1 b o e)
    have hsz : s1.heap.objs.size ≤ h1.objs.size := by rw [← hh1, Heap.size_push]; (first | lia | omega)
    refine hQ h1.objs.size f1 as1 _ [h1.objs.size] _ G1 (I1.ext keep) (Feed.range (n := n)) (by simpa using Heap.get?_push_size _ rfl) (fun b q => ?_) (by simp) (by simpa using hn') (S1.trans ⟨rfl, rfl, rfl⟩)
    simp at q; subst q
    exact I1.freshB hsz
theorem iok_enum {fn : Str} {p p0 pos : Pos} {x : Expr} {r : R} {ts : List Expr} {q : Nat} (G : Gnd g X.hb mg mb) (hE : EnvOk X) (hC : CxOk c X) (hx : c.isG fn = true) (hf : fn = ("enumerate" : Str)) (hs : notStar x = true) (h : ROk k X x r) :
    IOk k X (.Call (.Name fn p) [x] [] pos) (.Tuple ts q p0) (fun st => do let (d, st1) ← r.F st; let l ← seqD d; some (enumD l, st1)) := by
  intro A P f st vs as s ds st' hA I hg E Q hQ
  revert hg; refine bind_er2 fun d st1 e1 hg => ?_
  revert hg; refine bind_er fun l e2 hg => ?_
  cases hg
  cases d <;> cases e2
  subst hf
  refine wp_callT1 G hE hC I hx (id := "enumerate") (by simp [bootV]) hs (h.F A P f st vs as s _ _ hA I e1 E _ fun v f1 as1 s1 G1 I1 r1 S1 => ?_)
  cases r1 with
  | @list a ws n _ e k' rr =>
    have ga := I1.frz _ _ e
    refine call_enumerate_list (items := ws) ⟨_, ga, rfl, _, rfl⟩ fun h' he hit hsz keep => ?_
    refine wpAny_pyIter_enum he ?_
    have hlt := Heap.lt_size ga
    have n1 : s1.heap.objs.size + 1 ≠ s1.heap.objs.size := by (first | lia | omega)
    have n2 : a ≠ s1.heap.objs.size + 1 := Nat.ne_of_lt (Nat.lt_succ_of_lt hlt)
    have n3 : a ≠ s1.heap.objs.size := Nat.ne_of_lt hlt
    refine hQ (s1.heap.objs.size + 1) f1 as1 _ [s1.heap.objs.size + 1, s1.heap.objs.size] _ G1 (I1.ext keep) (Feed.enum n1 n2 n3 e rr) ⟨⟨_, he⟩, hit, ⟨_, keep _ _ ga, rfl, _, rfl⟩⟩ (fun b q => ?_) (by simp) (by simpa [enumD] using k') (S1.trans ⟨rfl, rfl, rfl⟩)
    simp at q
    rcases q with rfl | rfl
    · exact I1.freshB (by (first | lia | omega))
    · exact I1.freshB (by (first | lia | omega))
theorem iok_zip {fn : Str} {p p0 pos : Pos} {x y : Expr} {r r2 : R} {ts : List Expr} {q : Nat} (G : Gnd g X.hb mg mb) (hE : EnvOk X) (hC : CxOk c X) (hx : c.isG fn = true) (hf : fn = ("zip" : Str)) (hs : notStar x = true) (hs' : notStar y = true) (h : ROk k X x r) (h2 : ROk k X y r2) :
    IOk k X (.Call (.Name fn p) [x, y] [] pos) (.Tuple ts q p0) (fun st => do let (d, st1) ← r.F st; let (e, st2) ← r2.F st1; let l ← seqD d; let m ← seqD e; some (zipD l m, st2)) := by
  intro A P f st vs as s ds st' hA I hg E Q hQ
  revert hg; refine bind_er2 fun d st1 e1 hg => ?_
  revert hg; refine bind_er2 fun d2 st2 e2 hg => ?_
  revert hg; refine bind_r2 fun l e3 m e4 hg => ?_
  cases hg
  cases d <;> cases e3
  cases d2 <;> cases e4
  subst hf
  refine wp_callT2 G hE hC I hx (id := "zip") (by simp [bootV]) hs hs' (h.F A P f st vs as s _ st1 hA I e1 E _ fun v f1 as1 s1 G1 I1 r1 S1 => ?_)
  refine h2.F A P f1 st1 vs as1 s1 _ _ hA I1 e2 E _ fun u f2 as2 s2 G2 I2 r2 S2 => ?_
  have r1 := r1.mono G2.sub
  cases r1 with
  | @list a ws n _ e k' rr =>
    cases r2 with
    | @list b us n2 _ e' k2' rr2 =>
      have ga := I2.frz _ _ e
      have gb := I2.frz _ _ e'
      have hlt := Heap.lt_size ga
      have hlt' := Heap.lt_size gb
      refine call_zip_2 (xs := ws) (ys := us) ⟨_, ga, rfl, _, rfl⟩ ⟨_, gb, rfl, _, rfl⟩ fun h' hz hTI hTO h1 h2 hsz keep => ?_
      refine wpAny_pyIter_zip hz ?_
      have ZA : ZipApart (s2.heap.objs.size + 4) (s2.heap.objs.size + 2) (s2.heap.objs.size + 3) s2.heap.objs.size (s2.heap.objs.size + 1) a b := by
        have ha : ∀ j, a ≠ s2.heap.objs.size + j := fun j => Nat.ne_of_lt (Nat.lt_of_lt_of_le hlt (Nat.le_add_right _ _))
        have hb : ∀ j, b ≠ s2.heap.objs.size + j := fun j => Nat.ne_of_lt (Nat.lt_of_lt_of_le hlt' (Nat.le_add_right _ _))
        have hs : ∀ i j : Nat, i ≠ j → s2.heap.objs.size + i ≠ s2.heap.objs.size + j := fun i j h e => h (Nat.add_left_cancel e)
        exact ⟨hs 2 4 (by decide), hs 3 4 (by decide), hs 0 4 (by decide), hs 1 4 (by decide), hs 2 3 (by decide), hs 2 0 (by decide), hs 2 1 (by decide), hs 3 0 (by decide), hs 3 1 (by decide), hs 0 1 (by decide), ha 4, ha 3, ha 0, ha 1, hb 4, hb 3, hb 0, hb 1⟩
      refine hQ (s2.heap.objs.size + 4) f2 as2 _ [s2.heap.objs.size + 4, s2.heap.objs.size + 2, s2.heap.objs.size + 3, s2.heap.objs.size, s2.heap.objs.size + 1] _ (G1.trans G2) (I2.ext keep)
        (Feed.zip ZA e rr e' rr2) ⟨hz, hTI, ⟨_, _, hTO⟩, h1, h2, ⟨_, keep _ _ ga, rfl, _, rfl⟩, ⟨_, keep _ _ gb, rfl, _, rfl⟩⟩ (fun c q => ?_) (by simp) (by simp [zipD]; (first | lia | omega)) ((S1.trans S2).trans ⟨rfl, rfl, rfl⟩)
      simp at q
      rcases q with rfl | rfl | rfl | rfl | rfl <;> exact I2.freshB (by (first | lia | omega))
theorem rok_listRange {fn fn2 : Str} {p p2 pos pos2 : Pos} {x : Expr} {r : R} (G : Gnd g X.hb mg mb) (hE : EnvOk X) (hC : CxOk c X) (hx : c.isG fn = true) (hf : fn = ("list" : Str)) (hx2 : c.isG fn2 = true) (hf2 : fn2 = ("range" : Str)) (hs : notStar x = true) (h : ROk k X x r) :
    ROk k X (.Call (.Name fn p) [.Call (.Name fn2 p2) [x] [] pos2] [] pos) (un r listRangeD) := by
  refine ROk.of ?_ rfl
  intro A P f st vs as s sl st' hA I hg E Q hQ
  revert hg; refine bind_er2 fun d st1 e1 hg => ?_
  revert hg; refine bind_er fun sl' e2 hg => ?_
  cases hg
  revert e2; refine bind_er fun l e3 e2 => ?_
  cases e2
  obtain ⟨n, rfl, hn, rfl⟩ := rangeD_some e3
  subst hf hf2
  refine wp_callT1 G hE hC I hx (id := "list") (by simp [bootV]) rfl (wp_callT1 G hE hC I hx2 (id := "range") (by simp [bootV]) hs (h.F A P f st vs as s _ _ hA I e1 E _ fun v f1 as1 s1 G1 I1 r1 S1 => ?_))
  cases r1 with
  | int _ t =>
    refine call_range_1 ?_
    have hn' := hn
    unfold lim at hn
    have hsm : Builtin.Range.small 0 (n : Int) 1 = true := small_one (by (first | lia | omega)) (by (first | lia | omega)) (by (first | lia | omega)) (by (first | lia | omega))
    have hrs : Builtin.Range.rangeSize 0 (n : Int) 1 = n := by rw [rangeSize_one]; split <;> (first | lia | omega)
    refine call_list_range (n := n) (a := 0) (b := n) (c := 1) (t := s1.toks) (u := t) (v := s1.toks + 1) hA.hd (Heap.get?_push_size _ rfl) hsm hrs (by (first | lia | omega)) fun h' tk acc' c' keep2 hg' hit => ?_
    have keep : ∀ b o, s1.heap.get? b = some o → h'.get? b = some o := fun b o e => keep2 b o (Heap.get?_push_of_some _ e)
    have hsz : ∀ q : Obj, s1.heap.objs.size ≤ (s1.heap.push q).objs.size := fun q => by rw [Heap.size_push]; (first | lia | omega)
    have hrep : RepL f1 acc'.toList ((List.range n).map fun i => D.int (i : Nat)) := by
      refine RepL.ofGet (by rw [Array.length_toList, hit.1]; simp) fun i v d e4 e5 => ?_
      rw [Array.getElem?_toList] at e4
      obtain ⟨t, rfl⟩ := hit.2 i v e4
      have hi : i < n := by have := lt_of_get e5; simpa using this
      rw [List.getElem?_map, List.getElem?_range hi] at e5
      simp at e5
      subst e5
      have : (0 : Int) + (i : Int) * 1 = i := by (first | lia | omega)
      rw [this]
      exact .int _ t
    have I2 := I1.made keep (hsz _) (n := c') (ws := acc') (l := (List.range n).map fun i => D.int (i : Nat)) hg' (by simpa using hn') hrep
    exact hQ _ f1 as1 _ _ G1 I2.1 I2.2 (S1.trans ⟨rfl, rfl, rfl⟩)
end
end Mini
end
section
set_option autoImplicit false
set_option linter.unusedVariables false
set_option linter.unusedSimpArgs false
namespace Mini
set_option tactic.hygienic false
open PySem PySem.Calls PyProof.Rows
section
variable {k : Nat} {X : Fx} {g : Glb} {c : Cx} {mg mb : Str → Option Value}
theorem Inv.after {P f f' Q : Frz} {st : St} {vs : Nat → Value} {as : Nat → List Addr} {h h' : Heap} {tmp : List Addr} {dk' : List Int} (I : Inv X P f st vs as h) (hQ : ∀ a o, h.get? a = some o → X.dk ≠ some a → a ∉ tmp → Q a = some o) (ht : ∀ a ∈ tmp, Free X P f as a)
    (G : Grow Q f f') (frz' : ∀ a o, f' a = some o → h'.get? a = some o) (prs' : ∀ a o, Q a = some o → h'.get? a = some o)
    (deck' : ∀ a, X.dk = some a → ∃ ws n, h'.get? a = some (seqObj "list" ws n) ∧ IntsAre ws.toList dk' ∧ dk'.length ≤ lim) (dkf' : ∀ a, X.dk = some a → f' a = none) : Inv X P f' { st with dk := dk' } vs as h' := by
  have kp : ∀ a o, h.get? a = some o → X.dk ≠ some a → a ∉ tmp → h'.get? a = some o := fun a o e d t => prs' a o (hQ a o e d t)
  have off : ∀ a, f a = none → (∃ o, h.get? a = some o) → X.dk ≠ some a → a ∉ tmp → f' a = none := fun a e ⟨o, e2⟩ d t => G.off a e (by rw [hQ a o e2 d t]; simp)
  have loc : ∃ o, h.get? X.env.locals = some o := by obtain ⟨m, ⟨o, es, ep, e, _⟩, _⟩ := I.ns; exact ⟨o, e⟩
  have locD : X.dk ≠ some X.env.locals := fun q => (I.dkF _ q).2.2 rfl
  have locT : X.env.locals ∉ tmp := fun q => (ht _ q).l rfl
  exact {
    frz := frz'
    prs := fun a o e => kp a o (I.prs a o e) (fun q => by rw [(I.dkF a q).2.1] at e; cases e) fun q => by rw [(ht a q).p] at e; cases e
    base := I.base
    len := I.len
    ns := by
      obtain ⟨m, ⟨o, es, ep, e, r⟩, b⟩ := I.ns
      exact ⟨m, ⟨o, es, ep, kp _ _ e locD locT, r⟩, fun i s x e1 e2 e3 => (b i s x e1 e2 e3).mono G.sub⟩
    slot := fun i s e => (I.slot i s e).mono G.sub fun a ha o e => kp a o e (I.asF i a ha).2.2.2 fun q => (ht a q).a i ha
    cel := fun i x e1 e2 e3 => by
      obtain ⟨cc, o, h1, h2, h3, h4⟩ := I.cel i x e1 e2 e3
      have hm : cc ∈ as i := by rw [h4]; simp
      exact ⟨cc, o, h1, kp _ _ h2 (I.asF i cc hm).2.2.2 fun q => (ht cc q).a i hm, h3, h4⟩
    out := I.out
    deck := deck'
    locF := ⟨off _ I.locF.1 loc locD locT, I.locF.2⟩
    dkF := fun a e => ⟨dkf' a e, (I.dkF a e).2⟩
    asF := fun i a q => ⟨off a (I.asF i a q).1 (I.asLt q) (I.asF i a q).2.2.2 fun z => (ht a z).a i q, (I.asF i a q).2⟩
    asN := I.asN
    asD := I.asD }
noncomputable def Slot.still : Slot → Bool
  | .fro _ => true
  | .deck => true
  | _ => false
set_option tactic.hygienic true in
theorem isCap_some {st : St} {x : Nat} (h : isCap st x = true) : ∃ s, st.v[x]? = some s ∧ s ≠ .unset ∧ (∀ ks, s ≠ .dct ks) ∧ s.read.still = true := by
  unfold isCap at h
  split at h
  · cases h
  · cases h
  · rename_i s h1 h2 e
    refine ⟨s, e, fun z => h1 z, fun ks z => h2 ks z, ?_⟩
    cases s <;> first | rfl | exact absurd rfl h1 | exact absurd rfl (h2 _)
  · cases h
theorem still_cap {v : List Slot} {dk : List Int} {i : Nat} {s : Slot} (e : v[i]? = some s) (h : s.still = true) : isCap ⟨v, dk⟩ i = true := by
  unfold isCap
  simp only [e]
  cases s <;> first | rfl | cases h
theorem still_read {s : Slot} (h : s.still = true) : s.read = s := by cases s <;> first | rfl | cases h
theorem capV_still : ∀ (caps : List Nat) (v : List Slot) (j : Nat) (s : Slot), v[j]? = some s → s.still = true → (capV caps v)[j]? = some s
  | [], v, j, s, e, h => e
  | i :: r, v, j, s, e, h => by
    simp only [capVq1, capVq2]
    refine capV_still r _ j s ?_ h
    cases q : v[i]? with
    | none => exact e
    | some s0 =>
      dsimp only
      by_cases hij : i = j
      · subst hij
        rw [e] at q; cases q
        rw [List.getElem?_set_self (lt_of_get e), still_read h]
      · rw [List.getElem?_set_ne hij]; exact e
theorem Inv.readAll {P : Frz} {vs : Nat → Value} {h : Heap} : ∀ (caps : List Nat) {f : Frz} {st : St} {as : Nat → List Addr}, Inv X P f st vs as h → caps.all (isCap st) = true →
    ∃ f' as', Grow P f f' ∧ Inv X P f' { st with v := capV caps st.v } vs as' h ∧ (∀ i ∈ caps, ∃ s, (capV caps st.v)[i]? = some s ∧ s.still = true) ∧ (capV caps st.v).length = st.v.length
  | [], f, st, as, I, _ => ⟨f, as, .refl .., I, fun i q => (nomatch q), rfl⟩
  | i :: r, f, st, as, I, hc => by
    simp only [List.all_cons, Bool.and_eq_true] at hc
    obtain ⟨s, e, hu, hd, hs⟩ := isCap_some hc.1
    obtain ⟨f1, as1, G1, I1, _⟩ := I.readSlot e hu hd
    have hi := lt_of_get e
    have hr : r.all (isCap { st with v := st.v.set i s.read }) = true := by
      rw [List.all_eq_true] at hc ⊢
      intro j hj
      by_cases hij : i = j
      · subst hij
        exact still_cap (List.getElem?_set_self hi) hs
      · have := hc.2 j hj
        unfold isCap at this ⊢
        simp only at this ⊢
        rw [List.getElem?_set_ne hij]; exact this
    obtain ⟨f2, as2, G2, I2, h2, h3⟩ := Inv.readAll r I1 hr
    have ev : capV (i :: r) st.v = capV r (st.v.set i s.read) := by simp only [capVq1, capVq2, e]
    refine ⟨f2, as2, G1.trans G2, by rw [ev]; exact I2, ?_, by rw [ev, h3]; simp⟩
    intro j hj
    rw [ev]
    rcases List.mem_cons.mp hj with rfl | hj
    · exact ⟨_, capV_still r _ j _ (List.getElem?_set_self hi) hs, hs⟩
    · exact h2 j hj
noncomputable def compX (X : Fx) (scope : Scope) (cl : List (Str × Addr)) (caps : List Nat) (ts : List Str) (C : Addr) : Fx :=
  { env := compEnvC scope cl C X.env, names := (X.names.mapIdx fun i x => if caps.contains i then x else none) ++ ts.map some, hb := X.hb, dk := X.dk, prog := X.prog, w := X.w }
structure CompOk (X : Fx) (scope : Scope) (cl : List (Str × Addr)) (caps : List Nat) (ts : List Str) : Prop where
  kind : scope.kind = .function
  fn : X.env.scope.kind = .function
  nocell : ∀ y ∈ scope.names, y.2 ≠ .cell
  locs : ∀ y ∈ scope.names, y.2 = .local → scope.names.lookup y.1 = some .local
  clos : closureFor scope X.env = pure cl
  cap : ∀ i ∈ caps, ∃ x, X.names[i]? = some (some x) ∧ scope.names.lookup x = some .free ∧ X.env.kindOf x = some .cell ∧ cl.lookup x = X.env.cells.lookup x
  tgt : ∀ t ∈ ts, scope.names.lookup t = some .local
theorem lookup_relabel_free {env : Env} (hf : env.scope.kind = .function) : ∀ {names : List (Str × NameKind)} {x : Str}, names.lookup x = some .free → env.kindOf x = some .cell →
    (names.map fun (n, k) => if (k == NameKind.free && env.scope.kind == .function && env.kindOf n == some .cell) then (n, NameKind.cell) else (n, k)).lookup x = some .cell
  | [], _, h, _ => by simp at h
  | (n, k) :: r, x, h, hk => by
    have ih := @lookup_relabel_free env hf r x
    show List.lookup x ((if (k == NameKind.free && env.scope.kind == .function && env.kindOf n == some .cell) = true then (n, NameKind.cell) else (n, k)) :: _) = _
    cases hx : x == n with
    | true =>
      simp only [List.lookup_cons, hx] at h
      cases h
      have : x = n := eq_of_beq hx
      subst this
      have hc : (NameKind.free == NameKind.free && env.scope.kind == .function && env.kindOf x == some .cell) = true := by rw [hf, hk]; rfl
      rw [if_pos hc]
      simp [List.lookup_cons]
    | false =>
      simp only [List.lookup_cons, hx] at h
      by_cases hc : (k == NameKind.free && env.scope.kind == .function && env.kindOf n == some .cell) = true
      · rw [if_pos hc]; simp only [List.lookup_cons, hx]; exact ih h hk
      · rw [if_neg hc]; simp only [List.lookup_cons, hx]; exact ih h hk
variable {scope : Scope} {cl : List (Str × Addr)} {caps : List Nat} {ts : List Str}
theorem compX_local (O : CompOk X scope cl caps ts) {C : Addr} {t : Str} (h : t ∈ ts) : (compX X scope cl caps ts C).env.kindOf t = some .local := lookup_relabel_local (O.tgt t h)
theorem Inv.inner {P f Q : Frz} {st : St} {vs : Nat → Value} {as : Nat → List Addr} {h : Heap} {C : Addr} {m : Str → Option Value} (O : CompOk X scope cl caps ts) (I : Inv X P f st vs as h) (hst : ∀ i ∈ caps, ∃ s, st.v[i]? = some s ∧ s.still = true)
    (hC : h.Ns C m) (FC : Free X P f as C) (hQ : ∀ a o, Q a = some o → h.get? a = some o) (hB : ∀ a o, X.hb.get? a = some o → Q a = some o) (hQC : Q C = none) (hQd : ∀ a, X.dk = some a → Q a = none) :
    Inv (compX X scope cl caps ts C) Q f { v := seenV caps st.v ++ List.replicate ts.length .unset, dk := st.dk } vs (fun _ => []) h := by
  have hl : (seenV caps st.v).length = st.v.length := by simp [seenV]
  have slotAt : ∀ i s, (seenV caps st.v ++ List.replicate ts.length Slot.unset)[i]? = some s → s = .unset ∨ (i ∈ caps ∧ st.v[i]? = some s ∧ s.still = true) := by
    intro i s e
    rcases Nat.lt_or_ge i st.v.length with hi | hi
    · rw [List.getElem?_append_left (by rw [hl]; exact hi)] at e
      simp only [seenV, List.getElem?_mapIdx] at e
      obtain ⟨s0, e0, e⟩ := Option.map_eq_some_iff.mp e
      by_cases hc : caps.contains i = true
      · rw [if_pos hc] at e
        subst e
        have hm : i ∈ caps := by simpa using hc
        obtain ⟨s1, e1, e2⟩ := hst i hm
        rw [e0] at e1; cases e1
        exact .inr ⟨hm, e0, e2⟩
      · rw [if_neg hc] at e
        exact .inl e.symm
    · rw [List.getElem?_append_right (by rw [hl]; exact hi), List.getElem?_replicate] at e
      split at e
      · cases e; exact .inl rfl
      · cases e
  have nameAt : ∀ i x, (compX X scope cl caps ts C).names[i]? = some (some x) → (i ∈ caps ∧ X.names[i]? = some (some x)) ∨ x ∈ ts := by
    intro i x e
    simp only [compX] at e
    rcases Nat.lt_or_ge i X.names.length with hi | hi
    · rw [List.getElem?_append_left (by simpa using hi), List.getElem?_mapIdx] at e
      obtain ⟨s0, e0, e⟩ := Option.map_eq_some_iff.mp e
      by_cases hc : caps.contains i = true
      · rw [if_pos hc] at e
        exact .inl ⟨by simpa using hc, by rw [e0, e]⟩
      · rw [if_neg hc] at e; cases e
    · rw [List.getElem?_append_right (by simpa using hi), List.getElem?_map] at e
      obtain ⟨s0, e0, e⟩ := Option.map_eq_some_iff.mp e
      cases e
      exact .inr (List.mem_of_getElem? e0)
  exact {
    frz := I.frz
    prs := hQ
    base := hB
    len := by simp [compX, hl, I.len]
    ns := by
      refine ⟨m, hC, fun i s x e1 e2 e3 => ?_⟩
      rcases slotAt i s e1 with z | ⟨hm, e4, e5⟩
      · exact absurd z e3
      · obtain ⟨y, q1, q2, q3, q4⟩ := O.cap i hm
        have hxy : x = y := by
          rcases nameAt i x e2 with ⟨_, w⟩ | w
          · rw [q1] at w; cases w; rfl
          · exfalso
            simp only [compX] at e2
            have hi := lt_of_get q1
            rw [List.getElem?_append_left (by simpa using hi), List.getElem?_mapIdx, q1] at e2
            simp at e2
            exact absurd (O.tgt x w) (by rw [← e2.2, q2]; simp)
        subst hxy
        obtain ⟨m0, _, b⟩ := I.ns
        rcases b i s x e4 q1 e3 with ⟨w, _⟩ | ⟨_, cc, o, w1, w2, w3⟩
        · rw [q3] at w; cases w
        · exact .inr ⟨.inl (lookup_relabel_free O.fn q2 q3), cc, o, q4.trans w1, w2, w3⟩
    slot := fun i s e => by
      rcases slotAt i s e with rfl | ⟨hm, e4, e5⟩
      · exact .unset fun a q => (nomatch q)
      · have ok := I.slot i s e4
        generalize as i = ai at ok
        generalize vs i = vi at ok ⊢
        cases ok with
        | fro r => exact .fro r
        | deck q => exact .deck q
        | _ => cases e5
    cel := fun i x e1 e2 e3 => by
      exfalso
      rcases nameAt i x e2 with ⟨hm, w⟩ | w
      · obtain ⟨s, q1, q2⟩ := hst i hm
        have hi := lt_of_get q1
        rw [List.getElem?_append_left (by rw [hl]; exact hi)] at e1
        simp only [seenV, List.getElem?_mapIdx, q1] at e1
        have hc : caps.contains i = true := by simpa using hm
        simp [hc] at e1
        rw [e1 hm] at q2
        cases q2
      · rw [compX_local O w] at e3; cases e3
    out := fun _ _ => rfl
    deck := I.deck
    locF := ⟨FC.f, hQC⟩
    dkF := fun a q => ⟨(I.dkF a q).1, hQd a q, fun z => FC.d (by have z : a = C := z; rw [← z]; exact q)⟩
    asF := fun i a q => (nomatch q)
    asN := fun _ => List.nodup_nil
    asD := fun _ _ _ _ q => (nomatch q) }
noncomputable def TsOk (k : Nat) (X : Fx) (ifs : List Expr) (g : St → Option (Bool × St)) : Prop :=
  ∀ (A : Around) (P f : Frz) (st : St) (vs : Nat → Value) (as : Nat → List Addr) (s : Shared) (b : Bool) (st' : St), AOk k A → Inv X P f st vs as s.heap → g st = some (b, st') →
    ∀ (E : Value → Shared → Prop) (Q : Bool → Shared → Prop),
      (∀ f' as' s', Grow P f f' → Inv X P f' st' vs as' s'.heap → Same s s' → Q b s') →
      wpAny (model X.prog X.w) A (forIn ifs true fun c r => if r = true then do let ok ← isTrue c X.env (eval c X.env); pure (ForInStep.yield ok) else pure (ForInStep.yield r)) Q E s
theorem tsok_nil {cf : CF} : TsOk k X [] (evC cf .nil) := by
  intro A P f st vs as s b st' hA I hg E Q hQ
  cases hg
  exact wpAny_tests_nil (hQ f as s (.refl ..) I (.refl s))
theorem forIn_false {env : Env} : ∀ (l : List Expr), (forIn l false fun c r => if r = true then do let ok ← isTrue c env (eval c env); pure (ForInStep.yield ok) else pure (ForInStep.yield r) : Sem Bool) = pure false
  | [] => rfl
  | c :: l => by
    rw [List.forIn_cons]
    show (pure (ForInStep.yield false) >>= _ : Sem Bool) = _
    exact forIn_false l
theorem tsok_cons {cf : CF} {e : Expr} {es : List Expr} {a : Ex} {r : Exs} (h : ROk k X e (ev cf a)) (hr : TsOk k X es (evC cf r)) : TsOk k X (e :: es) (evC cf (.cons a r)) := by
  intro A P f st vs as s b st' hA I hg E Q hQ
  revert hg; refine bind_er2 fun b1 st1 e1 hg => ?_
  rw [List.forIn_cons]
  refine wpAny_bind (m := if true = true then _ else _) ?_
  rw [if_pos rfl]
  refine wpAny_bind (h.tst A P f st vs as s b1 st1 hA I e1 E _ fun f1 as1 s1 G1 I1 S1 => wpAny_pure ?_)
  cases b1 with
  | true => exact hr A P f1 st1 vs as1 s1 b st' hA I1 hg E Q fun f2 as2 s2 G2 I2 S2 => hQ f2 as2 s2 (G1.trans G2) I2 (S1.trans S2)
  | false =>
    cases hg
    show wpAny _ _ (forIn es false _) Q E s1
    rw [forIn_false]
    exact wpAny_pure (hQ f1 as1 s1 G1 I1 S1)
theorem codeAny_compLoop_own {prog : Program} {w : World} {A : Around} {R : Result → Shared → Prop} {s : Shared} {elt target iter : Expr} {ifs : List Expr} {scope : Scope} {pos : Pos} {it acc : Value} {env : Env} (I : Nat → Shared → Prop)
    (turn : ∀ n s, I n s → wpAny (model prog w) A (pyNext it) (fun r s₁ => match r with
      | none => R (.ok .next) s₁
      | some v => wpAny (model prog w) A (letOwnedTupleGo target it v) (fun _ s₁' => wpAny (model prog w) A (assign target env v) (fun _ s₂ =>
          wpAny (model prog w) A (forIn ifs true fun c r => if r = true then do let ok ← isTrue c env (eval c env); pure (ForInStep.yield ok) else pure (ForInStep.yield r)) (fun ok s₃ =>
            if ok = true then wpAny (model prog w) A (eval elt env) (fun x s₄ =>
              wpAny (model prog w) A (call (.builtin "list.append") [acc, x]) (fun _ s₅ => ∃ m, m < n ∧ I m s₅) (notedBy (model prog w) A env fun e s' => R (.error e) s') s₄) (notedBy (model prog w) A env fun e s' => R (.error e) s') s₃
            else ∃ m, m < n ∧ I m s₃) (notedBy (model prog w) A env fun e s' => R (.error e) s') s₂) (notedBy (model prog w) A env fun e s' => R (.error e) s') s₁') (notedBy (model prog w) A env fun e s' => R (.error e) s') s₁) (notedBy (model prog w) A env fun e s' => R (.error e) s') s)
    (n : Nat) (h : I n s) : codeAny (model prog w) A (.compLoop (.ListComp elt [⟨target, iter, ifs, 0⟩] scope pos) 0 it acc env) R s := by
  refine codeAny_loop rfl I (fun n s hI => ?_) n h
  show wpAny _ A ((compTurn (.ListComp elt [⟨target, iter, ifs, 0⟩] scope pos) 0 it acc env).onRaise (fun x => do noteFrame x env; theTreesLotGoes x)) _ _ s
  refine wpAny_noted ?_
  rw [compTurn_list]
  refine wpAny_bind (wpAny_standAt (wpAny_bind (wpAny_mono (turn n s hI) (fun r s₁ h₁ => ?_) fun _ _ h' => h')))
  cases r with
  | none => exact wpAny_pure h₁
  | some v =>
    refine wpAny_bind (wpAny_mono h₁ (fun _ s₁' h₁' => ?_) fun _ _ h' => h')
    refine wpAny_bind (wpAny_mono h₁' (fun _ s₂ h₂ => wpAny_bind (wpAny_mono h₂ (fun ok s₃ h₃ => ?_) fun _ _ h' => h')) fun _ _ h' => h')
    cases ok with
    | false => exact wpAny_pure ⟨rfl, h₃⟩
    | true =>
      exact wpAny_bind (wpAny_bind (wpAny_mono h₃ (fun x s₄ h₄ => wpAny_bind (wpAny_mono h₄ (fun _ s₅ h₅ => wpAny_pure (wpAny_pure ⟨rfl, h₅⟩)) fun _ _ h' => h')) fun _ _ h' => h'))
theorem call_append {prog : Program} {w : World} {A : Around} {E : Value → Shared → Prop} {s : Shared} {Q : Value → Shared → Prop} {l : Addr} {ws : Array Value} {n : Nat} {x : Value} (g : s.heap.get? l = some (seqObj "list" ws n)) (hz : ws.size ≤ sizeLine)
    (h : Q .none { s with heap := s.heap.update l (Obj.mapSeq fun xs => xs.push x) }) : wpAny (model prog w) A (call (.builtin "list.append") [.ref l, x]) Q E s :=
  call_meets F.slot_list_append ⟨_, g, rfl⟩ F.entry_list_append (F.args_list_append_2 _ _) (PySem.list_append l ws n x hz) ⟨g, h⟩
end
end Mini
end
section
set_option autoImplicit false
set_option linter.unusedVariables false
set_option linter.unusedSimpArgs false
namespace Mini
set_option tactic.hygienic false
open PySem PySem.Calls PyProof.Rows
section
variable {k : Nat} {X : Fx} {g : Glb} {c : Cx} {mg mb : Str → Option Value} {scope : Scope} {cl : List (Str × Addr)} {caps : List Nat} {ts : List Str}
theorem Free.ofSub {P P' f : Frz} {as : Nat → List Addr} {b : Addr} (F : Free X P' f as b) (k : Sub P P') : Free X P f as b := ⟨F.f, k.none F.p, F.l, F.d, F.a⟩
theorem comp_tgts (O : CompOk X scope cl caps ts) {C : Addr} {n : Nat} (hn : X.names.length = n) : Tgts (compX X scope cl caps ts C) (List.range' n ts.length) ts := by
  have key : ∀ (l pre : List Str), ts = pre ++ l → Tgts (compX X scope cl caps ts C) (List.range' (n + pre.length) l.length) l := by
    intro l
    induction l with
    | nil => intro pre _; exact .nil
    | cons t l ih =>
      intro pre e
      have hm : t ∈ ts := by rw [e]; simp
      refine .cons ?_ (compX_local O hm) ?_
      · simp only [compX]
        rw [List.getElem?_append_right (by simp; (first | lia | omega)), List.getElem?_map]
        have : n + pre.length - (List.mapIdx (fun i x => if caps.contains i = true then x else none) X.names).length = pre.length := by simp; (first | lia | omega)
        rw [this]
        have e2 : ts[pre.length]? = some t := by rw [e]; simp
        rw [e2]; rfl
      · have := ih (pre ++ [t]) (by rw [e]; simp)
        have e3 : n + (pre ++ [t]).length = n + pre.length + 1 := by simp; (first | lia | omega)
        rw [e3] at this
        exact this
  have := key ts [] rfl
  simpa using this
theorem comp_Q (h1 : Heap) (dk : Option Addr) (l : List Addr) : ∃ Q : Frz, (∀ a o, h1.get? a = some o → dk ≠ some a → a ∉ l → Q a = some o) ∧ (∀ a o, Q a = some o → h1.get? a = some o) ∧ ∀ a, a ∈ l ∨ dk = some a → Q a = none := by
  refine ⟨fun a => if a ∈ l ∨ dk = some a then none else h1.get? a, fun a o e d t => ?_, fun a o e => ?_, fun a z => if_pos z⟩
  · exact (if_neg (fun z => z.elim t d)).trans e
  · dsimp only at e
    split at e
    · exact nomatch e
    · exact e
theorem compL_el {n m : Nat} {gi : St → Option (Bool × St)} {re : R} {x : Mini.D} {l rest : List Mini.D} {st st2 : St} {Z : Prop} (h : compL (compOne n m gi re) (x :: l) st = some (rest, st2))
    (k : ∀ v' ok st4, bindT (List.range' n m) x st.v = some v' → gi { st with v := v' } = some (ok, st4) →
      ((ok = false ∧ compL (compOne n m gi re) l st4 = some (rest, st2)) ∨ (ok = true ∧ ∃ y st5 r, re.F st4 = some (y, st5) ∧ rest = y :: r ∧ compL (compOne n m gi re) l st5 = some (r, st2))) → Z) : Z := by
  refine bind_el2 h fun o st3 eo h => ?_
  refine bind_el2 h fun r stx er h => ?_
  refine bind_el eo fun v' eb eo => ?_
  refine bind_el2 eo fun ok st4 et eo => ?_
  refine k v' ok st4 eb et ?_
  cases ok with
  | false => cases (eo); cases (h); exact .inl ⟨rfl, er⟩
  | true =>
    refine bind_el2 eo fun y st5 ey eo => ?_
    cases (eo); cases (h)
    exact .inr ⟨rfl, y, _, r, ey, rfl, er⟩
theorem comp_or {ok : Bool} {a b : Prop} {Z : Bool → Prop} (h : (ok = false ∧ a) ∨ (ok = true ∧ b)) (k0 : a → Z false) (k1 : b → Z true) : Z ok := by
  rcases h with ⟨rfl, q⟩ | ⟨rfl, q⟩
  · exact k0 q
  · exact k1 q
inductive CI (Y : Fx) (Q f2 : Frz) (S : Nat → Heap → Prop) (one : Mini.D → St → Option (Option Mini.D × St)) (items out : List Mini.D) (st2 : St) (D : Addr) (wr : List Addr) (s3 : Shared) (n : Nat) (s' : Shared) : Prop
  | mk (i : Nat) (st' : St) (f' : Frz) (vs' : Nat → Value) (as' : Nat → List Addr) (done rest : List Mini.D) (ws : Array Value) (c : Nat) : n + i = items.length → compL one (items.drop i) st' = some (rest, st2) → out = done ++ rest →
      Grow Q f2 f' → Inv Y Q f' st' vs' as' s'.heap → S i s'.heap → (∀ b ∈ D :: wr, Free Y Q f' as' b) → s'.heap.get? D = some (seqObj "list" ws c) → RepL f' ws.toList done → done.length ≤ i → Same s3 s' → CI Y Q f2 S one items out st2 D wr s3 n s'
theorem comp_kept {Y : Fx} {It : Addr} {tgt : Expr} {prog : Program} {w : World} {Q Q' f1 f' f5 : Frz} {wr : List Addr} {D : Addr} {h2 h6 : Heap} {S : Nat → Heap → Prop} {items : List Mini.D} {st5 : St} {vs5 : Nat → Value} {as' as5 : Nat → List Addr} {j : Nat} {o : Obj}
    (Fd : Feed prog w tgt It wr f1 items S) (H : HoldsAt Q Q' (D :: wr) h2) (S2 : S j h2) (J5 : Inv Y Q' f5 st5 vs5 as5 h6) (G5 : Grow Q' f' f5) (hs : Sub f1 f') (Fr : ∀ b ∈ D :: wr, Free Y Q f' as' b) (gD : h2.get? D = some o)
    (base : ∀ a o, Y.hb.get? a = some o → Q a = some o) {Z : Prop} (k : S j h6 → (∀ b ∈ D :: wr, Free Y Q f5 as5 b) → h6.get? D = some o → Inv Y Q f5 st5 vs5 as5 h6 → Grow Q f' f5 → Z) : Z := by
  have hne : ∀ b ∈ D :: wr, Q' b ≠ none := fun b q z => by obtain ⟨o, w1, w2⟩ := H.at' b q; rw [w2] at z; exact nomatch z
  have kept : ∀ b ∈ D :: wr, ∀ o, h2.get? b = some o → h6.get? b = some o := fun b q o e => by
    obtain ⟨o', w1, w2⟩ := H.at' b q
    exact J5.prs b o (w2.trans (w1.symm.trans e))
  exact k (Fd.frame _ _ _ S2 (fun b q o e => kept b (List.mem_cons_of_mem _ q) o e) fun b o e => J5.frz b o (G5.sub b o (hs b o e)))
    (fun b q => (Fr b q).later (hne b q) G5 J5) (kept D (List.mem_cons_self ..) _ gD) (J5.less H.sub base) (G5.less H.sub.ne)
theorem comp_loop {Y : Fx} {It : Addr} {elt tgt iter : Expr} {ifs : List Expr} {cpos : Pos} {n0 : Nat} {gi : St → Option (Bool × St)} {re : R} (hY : FxOk Y) (TT : Tgts Y (List.range' n0 ts.length) ts) (hn : tgtsOf tgt = some ts) (h2 : tgtTwo tgt = true)
    (hts : TsOk k Y ifs gi) (hel : ROk k Y elt re) {A : Around} (hA : AOk k A) {Q f1 f2 : Frz} {wr : List Addr} {D : Addr} {S : Nat → Heap → Prop} {items out : List Mini.D} {st0 st2 : St} (Fd : Feed Y.prog Y.w tgt It wr f1 items S) (hs : Sub f1 f2)
    (hf1 : ∀ b ∈ D :: wr, f1 b = none) (nd : (D :: wr).Nodup) (base : ∀ a o, Y.hb.get? a = some o → Q a = some o) (hlen : items.length ≤ lim) {RR : Result → Shared → Prop} {s3 : Shared} {vs0 : Nat → Value} {as0 : Nat → List Addr}
    (hrun : compL (compOne n0 ts.length gi re) items st0 = some (out, st2)) (J0 : Inv Y Q f2 st0 vs0 as0 s3.heap) (S0 : S 0 s3.heap) (Fr0 : ∀ b ∈ D :: wr, Free Y Q f2 as0 b) (gD0 : s3.heap.get? D = some (seqObj "list" #[] 0))
    (hend : ∀ f' vs' as' s' ws c, Grow Q f2 f' → Inv Y Q f' st2 vs' as' s'.heap → (∀ b ∈ D :: wr, Free Y Q f' as' b) → s'.heap.get? D = some (seqObj "list" ws c) → RepL f' ws.toList out → out.length ≤ lim → Same s3 s' → RR (.ok .next) s') {scope : Scope} :
    codeAny (model Y.prog Y.w) A (.compLoop (.ListComp elt [⟨tgt, iter, ifs, 0⟩] scope cpos) 0 (.ref It) (.ref D) Y.env) RR s3 := by
  have hDwr : D ∉ wr := (List.nodup_cons.mp nd).1
  refine codeAny_compLoop_own (CI Y Q f2 S (compOne n0 ts.length gi re) items out st2 D wr s3) ?_ items.length (.mk 0 st0 f2 vs0 as0 [] out #[] 0 rfl hrun rfl (.refl ..) J0 S0 Fr0 gD0 .nil (Nat.le_refl _) (.refl s3))
  intro n s' C
  cases C with
  | mk i st' f' vs' as' done rest ws c hni hrun hout G J Si Fr' gD rr hdl Sm =>
    have hs' : Sub f1 f' := fun b o e => G.sub b o (hs b o e)
    have Fr2 : ∀ b ∈ wr, Free Y Q f' as' b := fun b q => Fr' b (List.mem_cons_of_mem _ q)
    rcases Nat.lt_or_ge i items.length with hlt | hge
    · rw [List.drop_eq_getElem_cons hlt] at hrun
      refine compL_el hrun fun v' ok st4 eb et hor => ?_
      refine Fd.item A i items[i] s' hA.hd Si (List.getElem?_eq_getElem hlt) (fun b o e => J.frz b o (hs' b o e)) (fun b q => hf1 b (List.mem_cons_of_mem _ q)) _ _ fun v s₁ hgo => hgo _ fun s2 Dr S2 kp Sm2 => ?_
      have J2 := J.but Fr2 kp
      have gD2 := kp _ _ hDwr gD
      obtain ⟨Q', H, J2'⟩ := J2.holdAll (D :: wr) (fun b q => ⟨(Fr' b q).p, (Fr' b q).l, (Fr' b q).d, (Fr' b q).a, (List.forall_mem_cons (p := fun b => ∃ o, s2.heap.get? b = some o)).mpr ⟨⟨_, gD2⟩, Fd.live _ _ S2⟩ b q⟩) nd
      refine wp_target hY hA.hd TT hn h2 Dr hs' J2' eb fun vs3 as3 s4 J3 Sm4 => ?_
      refine hts A Q' f' _ vs3 as3 s4 ok st4 hA J3 et _ _ fun f4 as4 s5 G4 J4 Sm5 => ?_
      have Sm5 := ((Sm.trans Sm2).trans Sm4).trans Sm5
      apply comp_or hor
      · intro hr
        rw [if_neg (by simp)]
        refine comp_kept Fd H S2 J4 G4 hs' Fr' gD2 base fun w1 w2 w3 w4 w5 => ?_
        exact ⟨n - 1, by (first | lia | omega), .mk (i + 1) st4 f4 vs3 as4 done rest ws c (by (first | lia | omega)) hr hout (G.trans w5) w4 w1 w2 w3 (rr.mono w5.sub) (Nat.le_succ_of_le hdl) Sm5⟩
      · rintro ⟨y, st5, r, ey, hr1, hr⟩
        rw [if_pos rfl]
        refine hel.F A Q' f4 st4 vs3 as4 s5 y _ hA J4 ey _ _ fun v5 f5 as5 s6 G5 J5 r5 Sm6 => ?_
        refine comp_kept Fd H S2 J5 (G4.trans G5) hs' Fr' gD2 base fun w1 w2 w3 w4 w5 => ?_
        have hwsz : ws.size = done.length := rr.length
        refine call_append w3 (by rw [hwsz, sizeLine_eq]; unfold lim at hlen; (first | lia | omega)) ?_
        have kpD : ∀ b o, b ∉ [D] → s6.heap.get? b = some o → (s6.heap.update D (Obj.mapSeq fun xs => xs.push v5)).get? b = some o := fun b o q e => (Heap.get?_update_other s6.heap _ (fun z => q (List.mem_singleton.mpr z.symm))).trans e
        refine ⟨n - 1, by (first | lia | omega), .mk (i + 1) _ f5 vs3 as5 (done ++ [y]) r (ws.push v5) _ (by (first | lia | omega)) hr (by rw [hout, hr1]; exact (List.append_assoc done [y] r).symm) (G.trans w5) (w4.but (wr := [D]) (fun b q => w2 b (List.mem_singleton.mp q ▸ List.mem_cons_self ..)) kpD) ?_ w2 (IsL.update w3 fun xs => xs.push v5) (push_rep (rr.mono w5.sub) r5) (by rw [List.length_append]; exact Nat.succ_le_succ hdl) ((Sm5.trans Sm6).trans ⟨rfl, rfl, rfl⟩)⟩
        refine Fd.frame _ _ _ w1 (fun b q o e => kpD b o (fun z => hDwr (List.mem_singleton.mp z ▸ q)) e) fun b o e => kpD b o (fun z => ?_) (w4.frz b o (w5.sub b o (hs' b o e)))
        rw [hf1 b (List.mem_singleton.mp z ▸ List.mem_cons_self ..)] at e
        exact nomatch e
    · have hie : i = items.length := Nat.le_antisymm (by (first | lia | omega)) hge
      rw [List.drop_eq_nil_of_le hge] at hrun
      cases (hrun)
      refine Fd.done A s' hA.hd (hie ▸ Si) _ _ fun s2 kp Sm2 => ?_
      rw [List.append_nil] at hout
      exact hend f' vs' as' s2 ws c G (J.but Fr2 kp) Fr' (kp _ _ hDwr gD) (hout ▸ rr) (by rw [hout]; exact Nat.le_trans hdl (hie ▸ hlen)) (Sm.trans Sm2)
set_option tactic.hygienic true in
theorem comp_core (O : CompOk X scope cl caps ts) {elt tgt iter : Expr} {ifs : List Expr} {cpos : Pos} {src : LR} {gi : St → Option (Bool × St)} {re : R} (hXin : ∀ C, FxOk (compX X scope cl caps ts C)) (hn : tgtsOf tgt = some ts) (h2 : tgtTwo tgt = true)
    (hi : IOk k X iter tgt src) (hts : ∀ C, TsOk k (compX X scope cl caps ts C) ifs gi) (hel : ∀ C, ROk k (compX X scope cl caps ts C) elt re)
    {A : Around} {P f : Frz} {st : St} {vs : Nat → Value} {as : Nat → List Addr} {s : Shared} {sl : Slot} {st' : St} (hA : AOk k A) (I : Inv X P f st vs as s.heap) (hg : (compR caps ts.length src gi re).val st = some (sl, st'))
    {E : Value → Shared → Prop} {RR : Value → Addr → Result → Shared → Prop}
    (hRR : ∀ D C f' as' s', Grow P f f' → Inv X P f' st' vs as' s'.heap → Res X P f' as' s'.heap (.ref D) sl [D] → Free X P f' as' C → C ≠ D → (∃ m, s'.heap.Ns C m) → Same s s' → RR (.ref D) C (.ok .next) s') :
    wpAny (model X.prog X.w) A (eval iter X.env) (fun x s₁ => wpAny (model X.prog X.w) A (pyIter x) (fun it s₂ => wpAny (model X.prog X.w) A (newList []) (fun acc s₃ =>
      wpAny (model X.prog X.w) A (newFunctionEnv scope X.env.globals cl [] X.env.qual none .none (some X.env)) (fun cenv s₄ =>
        codeAny (model X.prog X.w) A (.compStart (.ListComp elt [⟨tgt, iter, ifs, 0⟩] scope cpos) 0 it acc { cenv with scope := relabel scope X.env }) (RR acc cenv.locals) s₄) E s₃) E s₂) E s₁) E s := by
  revert hg; refine bind_er2 fun items st1 e1 hg => ?_
  dsimp only at hg
  split at hg
  rotate_left
  · cases hg
  rename_i hcaps
  revert hg; refine bind_er2 fun out st2 e2 hg => ?_
  revert hRR; apply ret_el hg; clear hg; intro hRR
  refine hi A P f st vs as s items st1 hA I e1 E _ fun It f1 as1 s1 wr S G1 I1 Fd S0 Ap nd hlen Sm1 => ?_
  clear e1 I
  refine wpAny_newObj_type (wpAny_newFunctionEnv O.nocell (by intro y hy; simp at hy) (fun h1 hns hsb => ?_) O.kind)
  dsimp only at hns hsb ⊢
  generalize hH2 : s1.heap.push { cls := .type "list", dict := none, data := .seq ([] : List Value).toArray } = H2 at hns hsb ⊢
  have hC : H2.objs.size = s1.heap.objs.size + 1 := by rw [← hH2, Heap.size_push]
  have hD2 : H2.get? s1.heap.objs.size = some (seqObj "list" #[] 0) := by rw [← hH2]; exact Heap.get?_push_size _ rfl
  have hK2 : ∀ a o, s1.heap.get? a = some o → H2.get? a = some o := fun a o e => hH2 ▸ Heap.get?_push_of_some _ e
  clear hH2
  revert hns hsb hC
  generalize H2.objs.size = C
  intro hns hsb hC
  have FD1 : Free X P f1 as1 s1.heap.objs.size := I1.freshB (Nat.le_refl _)
  have FC1 : Free X P f1 as1 C := I1.freshB (by rw [hC]; exact Nat.le_succ _)
  have wrlt : ∀ b ∈ wr, b < s1.heap.objs.size := fun b q => by obtain ⟨o, e⟩ := Fd.live _ _ S0 b q; exact Heap.lt_size e
  have hlt : ∀ a o, s1.heap.get? a = some o → a < s1.heap.objs.size := fun a o e => Heap.lt_size e
  revert hD2 FD1 wrlt hC hlt
  generalize s1.heap.objs.size = D
  intro hD2 hC FD1 wrlt hlt
  have hDC : D ≠ C := by rw [hC]; exact Nat.ne_of_lt (Nat.lt_succ_self _)
  have keep : ∀ a o, s1.heap.get? a = some o → h1.get? a = some o := fun a o e => hsb.extBut a o (by rw [hC]; exact Nat.ne_of_lt (Nat.lt_succ_of_lt (hlt a o e))) (Heap.get?_push_of_some _ (hK2 a o e))
  have hD : h1.get? D = some (seqObj "list" #[] 0) := hsb.extBut _ _ hDC (Heap.get?_push_of_some _ hD2)
  clear hsb hD2 hK2 hlt
  have hCobj : ∃ o, h1.get? C = some o := by obtain ⟨o, es, ep, e, _⟩ := hns; exact ⟨o, e⟩
  have ndDwr : (D :: wr).Nodup := List.nodup_cons.mpr ⟨fun q => Nat.lt_irrefl _ (wrlt D q), nd⟩
  have ndAll : (C :: D :: wr).Nodup := List.nodup_cons.mpr ⟨fun q => by
    rcases List.mem_cons.mp q with q | q
    · exact hDC q.symm
    · exact absurd (wrlt C q) (by rw [hC]; exact Nat.not_lt_of_le (Nat.le_succ _)), ndDwr⟩
  clear wrlt hC
  have F1 : ∀ b ∈ C :: D :: wr, Free X P f1 as1 b := List.forall_mem_cons.mpr ⟨FC1, List.forall_mem_cons.mpr ⟨FD1, Ap⟩⟩
  have there1 : ∀ b ∈ C :: D :: wr, ∃ o, h1.get? b = some o := (List.forall_mem_cons (p := fun b => ∃ o, h1.get? b = some o)).mpr ⟨hCobj, (List.forall_mem_cons (p := fun b => ∃ o, h1.get? b = some o)).mpr ⟨⟨_, hD⟩, fun b q => (Fd.live _ _ S0 b q).imp fun o e => keep _ _ e⟩⟩
  obtain ⟨P1, H1, J1⟩ := (I1.ext keep).holdAll (C :: D :: wr) (fun b q => ⟨(F1 b q).p, (F1 b q).l, (F1 b q).d, (F1 b q).a, there1 b q⟩) ndAll
  obtain ⟨f2, as2, G2, I2, hstill, hlv⟩ := J1.readAll caps hcaps
  have ne1 : ∀ b ∈ C :: D :: wr, P1 b ≠ none := fun b q z => by obtain ⟨o, w1, w2⟩ := H1.at' b q; rw [w2] at z; exact nomatch z
  have F2 : ∀ b ∈ C :: D :: wr, Free X P f2 as2 b := fun b q => (F1 b q).later (ne1 b q) G2 I2
  have I2' : Inv X P f2 { st1 with v := capV caps st1.v } vs as2 h1 := I2.less H1.sub I1.base
  have G2' : Grow P f f2 := G1.trans (G2.less H1.sub.ne)
  obtain ⟨Q, hQ1, hQ2, hQn⟩ : ∃ Q : Frz, (∀ a o, h1.get? a = some o → X.dk ≠ some a → a ∉ C :: D :: wr → Q a = some o) ∧ (∀ a o, Q a = some o → h1.get? a = some o) ∧ ∀ a, a ∈ C :: D :: wr ∨ X.dk = some a → Q a = none :=
    comp_Q ..
  have J0 := I2'.inner (C := C) (Q := Q) O hstill hns (F2 C (List.mem_cons_self ..)) hQ2 (fun a o e => by
    have hP := I1.base a o e
    exact hQ1 a o (I2'.prs a o hP) (fun z => by rw [(I2'.dkF a z).2.1] at hP; exact nomatch hP) fun z => by rw [(F2 a z).p] at hP; exact nomatch hP) (hQn C (.inl (List.mem_cons_self ..))) fun a z => hQn a (.inr z)
  have FrX : ∀ b ∈ D :: wr, Free (compX X scope cl caps ts C) Q f2 (fun _ => []) b := fun b q =>
    ⟨(F2 b (List.mem_cons_of_mem _ q)).f, hQn b (.inl (List.mem_cons_of_mem _ q)), fun z => (List.nodup_cons.mp ndAll).1 (by have z : b = C := z; rw [← z]; exact q), (F2 b (List.mem_cons_of_mem _ q)).d, fun i z => (nomatch z)⟩
  have S1 : S 0 h1 := Fd.frame _ _ _ S0 (fun b q o e => keep b o e) fun b o e => keep b o (I1.frz b o e)
  have loop : ∀ s3 : Shared, s3.heap = h1 → Same s1 s3 →
      codeAny (model X.prog X.w) A (.compLoop (.ListComp elt [⟨tgt, iter, ifs, 0⟩] scope cpos) 0 (.ref It) (.ref D) (compX X scope cl caps ts C).env) (RR (.ref D) C) s3 := by
    intro s3 hs3 Sm3
    rw [← hs3] at J0 S1 hD
    refine comp_loop (Y := compX X scope cl caps ts C) (hXin C) (comp_tgts O I1.len.symm) hn h2 (hts C) (hel C) hA Fd (fun b o e => G2.sub b o e) (fun b q => (F1 b (List.mem_cons_of_mem _ q)).f) ndDwr J0.base hlen e2 J0 S1 FrX hD ?_
    intro f' vs' as' s' ws c G J Fr gD rr hol Sm
    have FD2 := F2 D (List.mem_cons_of_mem _ (List.mem_cons_self ..))
    have FC2 := F2 C (List.mem_cons_self ..)
    have fin := I2'.after (dk' := st2.dk) hQ1 F2 G J.frz J.prs J.deck fun a z => (J.dkF a z).1
    refine hRR D C f' as2 s' (G2'.trans (G.less fun a z => ?_)) fin ⟨.own gD hol rr, fun b q => ?_, by simp⟩ ⟨J.locF.1, FC2.p, FC2.l, FC2.d, FC2.a⟩ (Ne.symm hDC) (J.ns.imp fun m h => h.1) ((Sm1.trans Sm3).trans Sm)
    · cases e : P a with
      | none => exact absurd e z
      | some o =>
        rw [hQ1 a o (I2'.prs a o e) (fun w => by rw [(I2'.dkF a w).2.1] at e; exact nomatch e) fun w => by rw [(F2 a w).p] at e; exact nomatch e]
        exact fun z => nomatch z
    · rw [List.mem_singleton.mp q]
      exact ⟨(Fr D (List.mem_cons_self ..)).f, FD2.p, FD2.l, FD2.d, FD2.a⟩
  refine codeAny_compStart_list (loop _ rfl ⟨rfl, rfl, rfl⟩) (Fd.self A 0 _ _ _ hA.hd S1 (loop _ rfl ⟨rfl, rfl, rfl⟩))
theorem Res.but {P f : Frz} {as : Nat → List Addr} {h h' : Heap} {v : Value} {s : Slot} {ar wr : List Addr} (R : Res X P f as h v s ar) (hd : ∀ a ∈ ar, a ∉ wr) (k : ∀ b o, b ∉ wr → h.get? b = some o → h'.get? b = some o) : Res X P f as h' v s ar :=
  ⟨R.ok.mono (fun _ _ e => e) fun a q o e => k a o (hd a q) e, R.fr, R.nd⟩
theorem rok_comp (O : CompOk X scope cl caps ts) {elt tgt iter : Expr} {ifs : List Expr} {cpos : Pos} {src : LR} {gi : St → Option (Bool × St)} {re : R} (hXin : ∀ C, FxOk (compX X scope cl caps ts C)) (hn : tgtsOf tgt = some ts) (h2 : tgtTwo tgt = true)
    (hi : IOk k X iter tgt src) (hts : ∀ C, TsOk k (compX X scope cl caps ts C) ifs gi) (hel : ∀ C, ROk k (compX X scope cl caps ts C) elt re) (hs : ∀ x, foldedSetIterable iter X.env x = pure x) :
    ROk k X (.ListComp elt [⟨tgt, iter, ifs, 0⟩] scope cpos) (compR caps ts.length src gi re) := by
  refine ROk.of ?_ rfl
  intro A P f st vs as s sl st' hA I hg E Q hQ
  rw [eval_ListComp]
  refine wpAny_comprehension_free (use := none) rfl hs O.clos O.kind O.locs ?_
  refine comp_core O hXin hn h2 hi hts hel (RR := fun acc C => compPost (model X.prog X.w) A E none Q acc C) hA I hg fun D C f' as' s' G I' R FC hCD ⟨m, hm⟩ Sm => ?_
  refine ⟨m, hm, fun h' hsb => ?_⟩
  have kp : ∀ b o, b ∉ [C] → s'.heap.get? b = some o → h'.get? b = some o := fun b o q e => (hsb.2 b (by simpa using q)).trans e
  refine hQ _ f' as' [D] { s' with heap := h' } G (I'.but (wr := [C]) (fun b q => by simp at q; subst q; exact FC) kp) (R.but (fun a q => ?_) kp) (Sm.trans ⟨rfl, rfl, rfl⟩)
  simp at q; subst q; simpa using Ne.symm hCD
theorem sok_asgComp (O : CompOk X scope cl caps ts) {elt tgt iter : Expr} {ifs : List Expr} {cpos : Pos} {src : LR} {gi : St → Option (Bool × St)} {re : R} (hXin : ∀ C, FxOk (compX X scope cl caps ts C)) (hn : tgtsOf tgt = some ts) (h2 : tgtTwo tgt = true)
    (hi : IOk k X iter tgt src) (hts : ∀ C, TsOk k (compX X scope cl caps ts C) ifs gi) (hel : ∀ C, ROk k (compX X scope cl caps ts C) elt re) (hs : ∀ x, foldedSetIterable iter X.env x = pure x)
    {x : Str} {i : Nat} {p pos : Pos} (hX : FxOk X) (hix : X.names[i]? = some (some x)) (hk : X.env.kindOf x = some .local) :
    SOk k X (.Assign [.Name x p] (.ListComp elt [⟨tgt, iter, ifs, 0⟩] scope cpos) pos) (asgS i (compR caps ts.length src gi re)) := by
  obtain ⟨b, hsw⟩ : ∃ b, swapsWith (.ListComp elt [⟨tgt, iter, ifs, 0⟩] scope cpos) (some (.Name x p)) pos.line X.env = pure b := ⟨_, rfl⟩
  intro A P f st vs as s c st' hA I hg E Q hQ
  revert hg; refine bind_er2 fun sl st1 e1 hg => ?_
  dsimp only at hg
  cases e2 : setSlot st1.v i sl with
  | none => rw [e2] at hg; cases hg
  | some v' =>
    rw [e2] at hg
    cases hg
    obtain ⟨q, rfl, hu⟩ := setSlot_some e2
    cases b with
    | false =>
      refine wpAny_Assign_Name ((rok_comp O hXin hn h2 hi hts hel hs).val A P f st vs as s sl st1 hA I e1 E _ fun v f1 as1 ar s1 G1 I1 R1 S1 => ?_) hsw
      exact wp_store hX I1 q hix hk R1 hu fun s2 I2 S2 => hQ _ f1 _ _ s2 G1 I2 .next (S1.trans S2)
    | true =>
      rw [exec_Assign_Name_used _ _ _ _ hsw]
      refine wpAny_bind (wpAny_standAt (wpAny_bind ?_))
      show wpAny _ A (do let _ ← comprehension (.ListComp elt [⟨tgt, iter, ifs, 0⟩] scope cpos) scope X.env _ (newList []) false (eval iter X.env) (some (assign (.Name x p) X.env))) _ _ s
      refine wpAny_bind (wpAny_mono (wpAny_comprehension_free (use := some (assign (.Name x p) X.env)) (Q := fun _ s' => Q .next s') rfl hs O.clos O.kind O.locs
        (comp_core O hXin hn h2 hi hts hel (RR := fun acc C => compPost (model X.prog X.w) A E (some (assign (.Name x p) X.env)) (fun _ s' => Q .next s') acc C) hA I e1 fun D C f' as' s' G I' R FC hCD ⟨m, hm⟩ Sm => ?_)) (fun _ s' hq => wpAny_pure (wpAny_pure hq)) fun _ _ e => e)
      show wpAny _ A (assign (.Name x p) X.env (.ref D)) _ _ s'
      obtain ⟨oC, es, ep, eC, rC⟩ := hm
      have I'' := I'.hold eC FC.p FC.l FC.d FC.a
      have hCD' : D ≠ C := Ne.symm hCD
      refine assign_Name (wp_store hX I'' q hix hk ⟨R.ok, fun a z => ?_, R.nd⟩ hu fun s2 I2 S2 => ?_)
      · obtain ⟨w1, w2, w3, w4, w5⟩ := R.fr a z
        simp at z; subst z
        exact ⟨w1, by rw [Frz.put_ne P oC hCD']; exact w2, w3, w4, w5⟩
      · have gC : s2.heap.get? C = some oC := I2.prs C oC (Frz.put_self ..)
        refine ⟨m, ⟨oC, es, ep, gC, rC⟩, fun h' hsb => ?_⟩
        have kp : ∀ b o, b ∉ [C] → s2.heap.get? b = some o → h'.get? b = some o := fun b o q e => (hsb.2 b (by simpa using q)).trans e
        have I3 := I2.less (Frz.put_sub oC FC.p) I.base
        refine hQ .next f' _ _ { s2 with heap := h' } G (I3.but (wr := [C]) (fun b z => ?_) kp) .next ((Sm.trans S2).trans ⟨rfl, rfl, rfl⟩)
        simp at z; subst z
        refine ⟨FC.f, FC.p, FC.l, FC.d, fun j z => ?_⟩
        by_cases hj : j = i
        · subst hj
          rw [updF_self] at z
          simp at z
          exact hCD z
        · rw [updF_ne as' _ hj] at z
          exact FC.a j z
end
end Mini
end
section
set_option autoImplicit false
set_option linter.unusedVariables false
set_option linter.unusedSimpArgs false
namespace Mini
set_option tactic.hygienic false
open PySem PySem.Calls PyProof.Rows
section
variable {k : Nat} {X : Fx} {g : Glb} {c : Cx} {mg mb : Str → Option Value}
inductive ArgOk (X : Fx) (f : Frz) : Value → Slot → Prop
  | fro {v : Value} {d : D} : Rep f v d → ArgOk X f v (.fro d)
  | deck {a : Addr} : X.dk = some a → ArgOk X f (.ref a) .deck
inductive ArgsOk (X : Fx) (f : Frz) : List Value → List Slot → Prop
  | nil : ArgsOk X f [] []
  | cons {v : Value} {s : Slot} {vs : List Value} {ss : List Slot} : ArgOk X f v s → ArgsOk X f vs ss → ArgsOk X f (v :: vs) (s :: ss)
theorem ArgOk.mono {f f' : Frz} (h : Sub f f') {v : Value} {s : Slot} (x : ArgOk X f v s) : ArgOk X f' v s := by
  cases x with
  | fro r => exact .fro (r.mono h)
  | deck e => exact .deck e
theorem ArgsOk.mono {f f' : Frz} (h : Sub f f') : ∀ {vs : List Value} {ss : List Slot}, ArgsOk X f vs ss → ArgsOk X f' vs ss
  | _, _, .nil => .nil
  | _, _, .cons x r => .cons (x.mono h) (r.mono h)
theorem ArgsOk.len {f : Frz} : ∀ {vs : List Value} {ss : List Slot}, ArgsOk X f vs ss → vs.length = ss.length
  | _, _, .nil => rfl
  | _, _, .cons _ r => by simp [r.len]
theorem ArgsOk.at' {f : Frz} : ∀ {vs : List Value} {ss : List Slot} (i : Nat) {s : Slot}, ArgsOk X f vs ss → ss[i]? = some s → ∃ v, vs[i]? = some v ∧ ArgOk X f v s
  | _, _, i, s, .nil, e => by simp at e
  | _, _, 0, s, .cons x r, e => by
    simp only [List.getElem?_cons_zero, Option.some.injEq] at e; subst e
    exact ⟨_, rfl, x⟩
  | _, _, i + 1, s, .cons x r, e => by
    simp only [List.getElem?_cons_succ] at e ⊢
    exact r.at' i e
noncomputable def CfOk (k : Nat) (X : Fx) (g : Glb) (mg : Str → Option Value) (cf : CF) : Prop :=
  ∀ (i : Nat) (x : Str), g.fns[i]? = some x → ∃ fa o fd, mg x = some (.ref fa) ∧ X.hb.get? fa = some o ∧ o.data = .func fd ∧
    ∀ (A : Around) (P f : Frz) (st : St) (vs : Nat → Value) (as : Nat → List Addr) (s : Shared) (args : List Slot) (vals : List Value) (d : D) (dk' : List Int), COk k A → Inv X P f st vs as s.heap → ArgsOk X f vals args → cf i args st.dk = some (d, dk') →
      ∀ (E : Value → Shared → Prop) (Q : Value → Shared → Prop),
        (∀ v f' s', Grow P f f' → Inv X P f' { st with dk := dk' } vs as s'.heap → Rep f' v d → Same s s' → Q v s') → wpAny (model X.prog X.w) A (call (.ref fa) vals) Q E s
noncomputable def ALOk (k : Nat) (X : Fx) (es : List Expr) (l : AR) : Prop :=
  ∀ (A : Around) (P f : Frz) (st : St) (vs : Nat → Value) (as : Nat → List Addr) (s : Shared) (ss : List Slot) (st' : St), AOk k A → Inv X P f st vs as s.heap → l st = some (ss, st') →
    ∀ (pos : Pos) (E : Value → Shared → Prop) (Q : List Value → Shared → Prop),
      (∀ ws f' as' s', Grow P f f' → Inv X P f' st' vs as' s'.heap → ArgsOk X f' ws ss → Same s s' → Q ws s') → wpAny (model X.prog X.w) A (spliced (backTo pos (starEach es X.env))) Q E s
theorem alok_nil {cf : CF} : ALOk k X [] (evA cf .nil) := by
  intro A P f st vs as s ds st' hA I hg pos E Q hQ
  cases hg
  exact wpAny_items_nil (hQ [] f as s (.refl ..) I .nil (.refl s))
set_option tactic.hygienic true in
theorem alok_cons {cf : CF} {e : Expr} {es : List Expr} {a : Ex} {r : Exs} (hs : notStar e = true) (h : ROk k X e (ev cf a)) (hr : ALOk k X es (evA cf r)) : ALOk k X (e :: es) (evA cf (.cons a r)) := by
  intro A P f st vs as s ds st' hA I hg pos E Q hQ
  revert hg; refine bind_er2 fun sl st1 e1 hg => ?_
  revert hg; refine bind_er fun s1' e2 hg => ?_
  revert hg; refine bind_er2 fun ss st2 e3 hg => ?_
  cases hg
  refine wpAny_items_cons (h.val A P f st vs as s sl st1 hA I e1 E _ fun v f1 as1 ar s1 G1 I1 R1 S1 => ?_) (starEach_cons hs)
  have key : ∃ f2, Grow P f1 f2 ∧ Inv X P f2 st1 vs as1 s1.heap ∧ ArgOk X f2 v s1' := by
    unfold argS at e2
    split at e2
    · cases e2
      refine ⟨f1, .refl .., I1, ?_⟩
      cases R1.ok with
      | deck q => exact .deck q
    · split at e2
      · rename_i d e4
        cases e2
        obtain ⟨f2, G2, I2, r2⟩ := R1.freeze I1 e4
        exact ⟨f2, G2, I2, .fro r2⟩
      · cases e2
  obtain ⟨f2, G2, I2, x⟩ := key
  exact hr A P f2 st1 vs as1 s1 ss _ hA I2 e3 pos E _ fun ws f3 as3 s3 G3 I3 x3 S3 => hQ _ f3 as3 s3 ((G1.trans G2).trans G3) I3 (.cons (x.mono G3.sub) x3) (S1.trans S3)
theorem rok_call {cf : CF} {fn : Str} {p pos : Pos} {e : Expr} {es : List Expr} {i : Nat} {l : AR} (G : Gnd g X.hb mg mb) (hE : EnvOk X) (hC : CxOk c X) (hcf : CfOk k X g mg cf) (hx : c.isG fn = true) (hi : g.fns[i]? = some fn) (hs : notStar e = true) (h : ALOk k X (e :: es) l) :
    ROk k X (.Call (.Name fn p) (e :: es) [] pos) (callR cf i l) := by
  refine ROk.of ?_ rfl
  intro A P f st vs as s sl st' hA I hg E Q hQ
  revert hg; refine bind_er2 fun ss st1 e1 hg => ?_
  revert hg; refine bind_er2 fun d dk e2 hg => ?_
  cases hg
  obtain ⟨fa, o, fd, hmg, ho, hd, hcall⟩ := hcf i fn hi
  refine wpAny_Call_NameR (Name_function_global hE.kind (hC.isG fn hx) (loadGlobal_global (by rw [hE.glob]; exact G.gn.keeps I.keepB) hmg ?_) (hC.dG hx))
  refine callWith_def hd (h A P f st vs as s ss st1 hA I e1 pos E _ fun ws f1 as1 s1 G1 I1 x1 S1 => ⟨I1.keepB _ _ ho, ?_⟩) (starEach_cons hs)
  exact hcall A P f1 st1 vs as1 s1 ss ws d dk hA.call I1 x1 e2 E Q fun v f2 s2 G2 I2 r2 S2 => hQ v f2 as1 [] s2 (G1.trans G2) I2 (.fro r2) (S1.trans S2)
structure FnOk (g : Glb) (hb : Heap) (fa : Addr) (fn : Fn) (fd : FuncData) (body : List Stmt) (ps vs : List Str) : Prop where
  obj : ∃ o, hb.get? fa = some o ∧ o.data = .func fd
  code : hb.CodeRec fd.code fd.qualname
  bod : fd.body = .stmts body
  clo : fd.closure = []
  glob : fd.globals = mainGlobals
  bi : fd.builtins = builtinsNs
  kind : fd.scope.kind = .function
  co : fd.scope.isCoroutine = false
  gen : fd.scope.isGenerator = false
  bind : ∀ vals : List Value, vals.length = ps.length → bindArgs fd ⟨vals, []⟩ = pure (ps.zip vals)
  np : fn.np = ps.length
  nv : fn.nv = vs.length
  pre : vs.take ps.length = ps
  nodup : vs.Nodup
  kinds : ∀ x ∈ vs, fd.scope.names.lookup x = some .local ∨ fd.scope.names.lookup x = some .cell
noncomputable def calleeX (X : Fx) (fd : FuncData) (vs : List Str) (L fa : Addr) : Fx := { env := callEnvC fd L fa, names := vs.map some, hb := X.hb, dk := X.dk, prog := X.prog, w := X.w }
theorem bindL_none {kindOf : Str → Option NameKind} {x : Str} : ∀ (binds : List (Str × Value)) (m : Str → Option Value), (∀ b ∈ binds, b.1 ≠ x) → bindL kindOf binds m x = m x
  | [], m, _ => rfl
  | (n, v) :: r, m, h => by
    unfold bindL
    rw [bindL_none r _ fun b q => h b (List.mem_cons_of_mem _ q)]
    split
    · simp [Ne.symm (h (n, v) (by simp))]
    · rfl
theorem bindC_none {kindOf : Str → Option NameKind} {x : Str} : ∀ (binds : List (Str × Value)) (m : Str → Option Value), (∀ b ∈ binds, b.1 ≠ x) → bindC kindOf binds m x = m x
  | [], m, _ => rfl
  | (n, v) :: r, m, h => by
    unfold bindC
    rw [bindC_none r _ fun b q => h b (List.mem_cons_of_mem _ q)]
    split
    · rfl
    · simp [Ne.symm (h (n, v) (by simp))]
theorem zip_not {x : Str} {ps : List Str} {vals : List Value} (h : x ∉ ps) : ∀ b ∈ ps.zip vals, b.1 ≠ x := fun b q e => h (e ▸ (List.of_mem_zip q).1)
theorem bindL_at {kindOf : Str → Option NameKind} : ∀ {ps : List Str} {vals : List Value} {i : Nat} {x : Str} {v : Value} (m : Str → Option Value), ps.Nodup → ps[i]? = some x → vals[i]? = some v → kindOf x = some .local → bindL kindOf (ps.zip vals) m x = some v
  | [], _, i, _, _, _, _, e, _, _ => by simp at e
  | _ :: _, [], i, _, _, _, _, _, e, _ => by simp at e
  | p :: ps, u :: vals, 0, x, v, m, nd, e1, e2, hk => by
    simp at e1 e2; subst e1; subst e2
    show bindL kindOf ((p, u) :: ps.zip vals) m p = some u
    unfold bindL
    rw [bindL_none _ _ (zip_not (List.nodup_cons.mp nd).1), if_pos hk]
    simp
  | p :: ps, u :: vals, i + 1, x, v, m, nd, e1, e2, hk => by
    show bindL kindOf ((p, u) :: ps.zip vals) m x = some v
    unfold bindL
    exact bindL_at _ (List.nodup_cons.mp nd).2 (by simpa using e1) (by simpa using e2) hk
theorem bindC_at {kindOf : Str → Option NameKind} : ∀ {ps : List Str} {vals : List Value} {i : Nat} {x : Str} {v : Value} (m : Str → Option Value), ps.Nodup → ps[i]? = some x → vals[i]? = some v → kindOf x = some .cell → bindC kindOf (ps.zip vals) m x = some v
  | [], _, i, _, _, _, _, e, _, _ => by simp at e
  | _ :: _, [], i, _, _, _, _, _, e, _ => by simp at e
  | p :: ps, u :: vals, 0, x, v, m, nd, e1, e2, hk => by
    simp at e1 e2; subst e1; subst e2
    show bindC kindOf ((p, u) :: ps.zip vals) m p = some u
    unfold bindC
    rw [bindC_none _ _ (zip_not (List.nodup_cons.mp nd).1), if_neg (by rw [hk]; simp)]
    simp
  | p :: ps, u :: vals, i + 1, x, v, m, nd, e1, e2, hk => by
    show bindC kindOf ((p, u) :: ps.zip vals) m x = some v
    unfold bindC
    exact bindC_at _ (List.nodup_cons.mp nd).2 (by simpa using e1) (by simpa using e2) hk
noncomputable def paramCells (env : Env) (ps : List Str) : List Addr := ps.filterMap fun x => if env.kindOf x = some .cell then env.cells.lookup x else none
set_option tactic.hygienic true in
theorem mem_paramCells {env : Env} {ps : List Str} {a : Addr} : a ∈ paramCells env ps ↔ ∃ x ∈ ps, env.kindOf x = some .cell ∧ env.cells.lookup x = some a := by
  unfold paramCells
  rw [List.mem_filterMap]
  constructor
  · rintro ⟨x, h1, h2⟩
    split at h2
    · rename_i q; exact ⟨x, h1, q, h2⟩
    · cases h2
  · rintro ⟨x, h1, h2, h3⟩
    exact ⟨x, h1, by rw [if_pos h2]; exact h3⟩
set_option tactic.hygienic true in
theorem Inv.enter {P f : Frz} {st : St} {vs : Nat → Value} {as : Nat → List Addr} {s s₁ : Shared} {fn : Fn} {fd : FuncData} {body : List Stmt} {ps ns : List Str} {fa : Addr} {vals : List Value} {args : List Slot} (I : Inv X P f st vs as s.heap) (O : FnOk g X.hb fa fn fd body ps ns) (hargs : ArgsOk X f vals args) (hlen : args.length = fn.np)
    (hin : InCallC s s.heap.objs.size (bindL (callEnvC fd s.heap.objs.size fa).kindOf (ps.zip vals) fun _ => none) (callEnvC fd s.heap.objs.size fa).cells (bindC (callEnvC fd s.heap.objs.size fa).kindOf (ps.zip vals) fun _ => none) s₁) :
    ∃ Q f' as', (∀ a o, s.heap.get? a = some o → X.dk ≠ some a → Q a = some o) ∧ Grow Q f f' ∧
      Inv (calleeX X fd ns s.heap.objs.size fa) Q f' { v := args ++ List.replicate (fn.nv - fn.np) .unset, dk := st.dk } (fun i => (vals[i]?).getD .none) as' s₁.heap := by
  have hvl : vals.length = ps.length := by rw [hargs.len, hlen, O.np]
  have keep := hin.toInCall.keep
  obtain ⟨env, henv⟩ : ∃ env, env = callEnvC fd s.heap.objs.size fa := ⟨_, rfl⟩
  have hL : env.locals = s.heap.objs.size := by rw [henv]; rfl
  rw [← henv] at hin
  have hkind : ∀ x ∈ ns, env.kindOf x = some .local ∨ env.kindOf x = some .cell := fun x q => by rw [henv]; exact O.kinds x q
  have ndp : ps.Nodup := by rw [← O.pre]; exact O.nodup.sublist (List.take_sublist ..)
  have hpn : ∀ i x, ps[i]? = some x → ns[i]? = some x := fun i x e => by
    rw [← O.pre, List.getElem?_take] at e
    split at e
    · exact e
    · cases e
  have hnp : ∀ i x, i < ps.length → ns[i]? = some x → ps[i]? = some x := fun i x hi e => by
    rw [← O.pre, List.getElem?_take, if_pos hi]; exact e
  have fresh : ∀ x a, env.cells.lookup x = some a → s.heap.objs.size < a := fun x a e => hin.above x a (mem_of_lookup e)
  have hcell : ∀ x ∈ ns, env.kindOf x = some .cell → ∃ cc, env.cells.lookup x = some cc := fun x q hk => by
    have : ((cellsFrom (s.heap.objs.size + 1) fd.scope.names []).lookup x).isSome = true := PySem.W.cellsFrom_some _ _ _ (.inl (by rw [henv] at hk; exact hk))
    obtain ⟨cc, e⟩ := Option.isSome_iff_exists.mp this
    exact ⟨cc, by rw [henv]; exact e⟩
  have same : ∀ x y a, env.cells.lookup x = some a → env.cells.lookup y = some a → x = y := fun x y a e1 e2 => name_of_addr hin.apart (mem_of_lookup e1) (mem_of_lookup e2)
  have notOld : ∀ a o, s.heap.get? a = some o → ¬ s.heap.objs.size < a := fun a o e z => Nat.lt_irrefl _ (Nat.lt_trans z (Heap.lt_size e))
  obtain ⟨f', hf'⟩ : ∃ f' : Frz, f' = fun a => if a ∈ paramCells env ps then s₁.heap.get? a else f a := ⟨_, rfl⟩
  obtain ⟨Q, hQd⟩ : ∃ Q : Frz, Q = fun a => if X.dk = some a then none else s.heap.get? a := ⟨_, rfl⟩
  have pcNew : ∀ a ∈ paramCells env ps, s.heap.objs.size < a := fun a q => by obtain ⟨x, _, _, e⟩ := mem_paramCells.mp q; exact fresh x a e
  have f'old : ∀ a, a ∉ paramCells env ps → f' a = f a := fun a q => by rw [hf']; dsimp only; rw [if_neg q]
  have f'new : ∀ a, a ∈ paramCells env ps → f' a = s₁.heap.get? a := fun a q => by rw [hf']; dsimp only; rw [if_pos q]
  have sb : Sub f f' := fun a o e => by
    rw [f'old a fun q => notOld a o (I.frz a o e) (pcNew a q)]; exact e
  have hQ1 : ∀ a o, s.heap.get? a = some o → X.dk ≠ some a → Q a = some o := fun a o e d => by rw [hQd]; dsimp only; rw [if_neg d]; exact e
  have hQ2 : ∀ a o, Q a = some o → s.heap.get? a = some o := fun a o e => by
    rw [hQd] at e; dsimp only at e
    split at e
    · cases e
    · exact e
  have noL : ∀ o, s.heap.get? s.heap.objs.size ≠ some o := fun o e => Nat.lt_irrefl _ (Heap.lt_size e)
  have noF : ∀ a, s.heap.objs.size ≤ a → f a = none := fun a q => (I.fresh q).1
  have noQ : ∀ a, s.heap.objs.size ≤ a → Q a = none := fun a q => by
    cases e : Q a with
    | none => rfl
    | some o => exact absurd (Heap.lt_size (hQ2 a o e)) (Nat.not_lt.mpr q)
  have Ldk : ∀ a, X.dk = some a → ∃ o, s.heap.get? a = some o := fun a e => by obtain ⟨ws, n, w, _⟩ := I.deck a e; exact ⟨_, w⟩
  obtain ⟨as', has⟩ : ∃ as' : Nat → List Addr, as' = fun i => if i < ps.length then [] else match ns[i]? with | some x => if env.kindOf x = some .cell then (env.cells.lookup x).toList else [] | none => [] := ⟨_, rfl⟩
  have asAt : ∀ i a, a ∈ as' i → ps.length ≤ i ∧ ∃ x, ns[i]? = some x ∧ env.kindOf x = some .cell ∧ env.cells.lookup x = some a := fun i a q => by
    rw [has] at q
    dsimp only at q
    split at q
    · cases q
    · rename_i hi
      split at q
      · rename_i x e
        split at q
        · rename_i hk
          refine ⟨Nat.le_of_not_lt hi, x, e, hk, ?_⟩
          cases e2 : env.cells.lookup x with
          | none => rw [e2] at q; cases q
          | some b => rw [e2] at q; simp at q; rw [q]
        · cases q
      · cases q
  have psIn : ∀ i x, ns[i]? = some x → x ∈ ps → i < ps.length := fun i x e q => by
    obtain ⟨j, hj⟩ := List.getElem?_of_mem q
    have := (List.getElem?_inj (lt_of_get (hpn j x hj)) O.nodup).mp ((hpn j x hj).trans e.symm)
    rw [← this]; exact lt_of_get hj
  have slotAt : ∀ i sl, (args ++ List.replicate (fn.nv - fn.np) Slot.unset)[i]? = some sl → (i < ps.length ∧ args[i]? = some sl) ∨ (ps.length ≤ i ∧ sl = .unset) := fun i sl e => by
    have hal : args.length = ps.length := by rw [hlen, O.np]
    rcases Nat.lt_or_ge i ps.length with hi | hi
    · rw [List.getElem?_append_left (by rw [hal]; exact hi)] at e; exact .inl ⟨hi, e⟩
    · rw [List.getElem?_append_right (by rw [hal]; exact hi), List.getElem?_replicate] at e
      split at e
      · cases e; exact .inr ⟨hi, rfl⟩
      · cases e
  refine ⟨Q, f', as', hQ1, ⟨sb, fun a e k => ?_⟩, ?_⟩
  · have : a ∉ paramCells env ps := fun q => k (noQ a (Nat.le_of_lt (pcNew a q)))
    rw [f'old a this]; exact e
  · exact {
      frz := fun a o e => by
        by_cases q : a ∈ paramCells env ps
        · rw [f'new a q] at e; exact e
        · rw [f'old a q] at e; exact keep a o (I.frz a o e)
      prs := fun a o e => keep a o (hQ2 a o e)
      base := fun a o e => hQ1 a o (I.keepB a o e) fun q => by have := I.base a o e; rw [(I.dkF a q).2.1] at this; cases this
      len := by
        have h1 := O.nv
        have h2 : ps.length ≤ ns.length := by rw [← O.pre, List.length_take]; exact Nat.min_le_right ..
        simp [calleeX, hlen]
        rw [h1, O.np]; (first | lia | omega)
      ns := by
        refine ⟨_, hin.toInCall.ns, fun i sl x e1 e2 e3 => ?_⟩
        rcases slotAt i sl e1 with ⟨hi, e4⟩ | ⟨_, rfl⟩
        · simp only [calleeX, List.getElem?_map] at e2
          obtain ⟨x', e5, e6⟩ := Option.map_eq_some_iff.mp e2
          cases (e6)
          obtain ⟨v, e7, _⟩ := hargs.at' i e4
          have e8 := hnp i x hi e5
          show Binds (callEnvC fd s.heap.objs.size fa) f' _ x ((vals[i]?).getD .none)
          rw [e7, ← henv]
          rcases hkind x (List.mem_of_getElem? e5) with hk | hk
          · exact .inl ⟨hk, bindL_at _ ndp e8 e7 hk⟩
          · obtain ⟨cc, hcc⟩ := hcell x (List.mem_of_getElem? e5) hk
            obtain ⟨o, w1, w2⟩ := hin.cell x cc hcc
            rw [bindC_at _ ndp e8 e7 hk] at w2
            exact .inr ⟨.inl hk, cc, o, hcc, by rw [f'new cc (mem_paramCells.mpr ⟨x, List.mem_of_getElem? e8, hk, hcc⟩)]; exact w1, w2⟩
        · exact absurd rfl e3
      slot := fun i sl e => by
        rcases slotAt i sl e with ⟨hi, e4⟩ | ⟨hi, rfl⟩
        · obtain ⟨v, e7, ok⟩ := hargs.at' i e4
          have ha : as' i = [] := by rw [has]; dsimp only; rw [if_pos hi]
          rw [ha, e7]
          cases ok with
          | fro r => exact .fro (r.mono sb)
          | deck q => exact .deck q
        · refine .unset fun a q => ?_
          obtain ⟨_, x, e5, hk, hcc⟩ := asAt i a q
          obtain ⟨o, w1, _⟩ := hin.cell x a hcc
          exact ⟨o, w1⟩
      cel := fun i x e1 e2 e3 => by
        simp only [calleeX, List.getElem?_map] at e2 e3
        obtain ⟨x', e5, e6⟩ := Option.map_eq_some_iff.mp e2
        cases (e6)
        have e3 : env.kindOf x = some .cell := by rw [henv]; exact e3
        rcases slotAt i _ e1 with ⟨hi, e4⟩ | ⟨hi, _⟩
        · obtain ⟨v, e7, ok⟩ := hargs.at' i e4
          cases ok
        · obtain ⟨cc, hcc⟩ := hcell x (List.mem_of_getElem? e5) e3
          obtain ⟨o, w1, w2⟩ := hin.cell x cc hcc
          have hx : x ∉ ps := fun q => Nat.lt_irrefl _ (Nat.lt_of_lt_of_le (psIn i x e5 q) hi)
          rw [bindC_none _ _ (zip_not hx)] at w2
          refine ⟨cc, o, by show (callEnvC fd s.heap.objs.size fa).cells.lookup x = some cc; rw [← henv]; exact hcc, w1, w2, ?_⟩
          rw [has]; dsimp only
          rw [if_neg (Nat.not_lt.mpr hi), e5]
          dsimp only
          rw [if_pos e3, hcc]; rfl
      out := fun i hi => by
        rw [has]; dsimp only
        have h2 : ps.length ≤ ns.length := by rw [← O.pre, List.length_take]; exact Nat.min_le_right ..
        have h1 : ns.length ≤ i := by simp [hlen] at hi; rw [O.nv, O.np] at hi; (first | lia | omega)
        rw [if_neg (by (first | lia | omega)), List.getElem?_eq_none h1]
      deck := fun a e => by
        obtain ⟨ws, n, w1, w2⟩ := I.deck a e
        exact ⟨ws, n, keep _ _ w1, w2⟩
      locF := by
        show f' (callEnvC fd s.heap.objs.size fa).locals = none ∧ Q (callEnvC fd s.heap.objs.size fa).locals = none
        rw [← henv, hL]
        exact ⟨by rw [f'old _ fun q => Nat.lt_irrefl _ (pcNew _ q)]; exact noF _ (Nat.le_refl _), noQ _ (Nat.le_refl _)⟩
      dkF := fun a e => by
        obtain ⟨o, w⟩ := Ldk a e
        refine ⟨by rw [f'old a fun q => notOld a o w (pcNew a q)]; exact (I.dkF a e).1, by rw [hQd]; dsimp only; rw [if_pos (show X.dk = some a from e)], fun z => ?_⟩
        have z : a = s.heap.objs.size := z
        rw [z] at w; exact noL o w
      asF := fun i a q => by
        obtain ⟨hi, x, e5, hk, hcc⟩ := asAt i a q
        have hlt := fresh x a hcc
        have hnp : a ∉ paramCells env ps := fun w => by
          obtain ⟨y, v1, v2, v3⟩ := mem_paramCells.mp w
          have := same x y a hcc v3
          subst this
          exact Nat.lt_irrefl _ (Nat.lt_of_lt_of_le (psIn i x e5 v1) hi)
        refine ⟨by rw [f'old a hnp]; exact noF a (Nat.le_of_lt hlt), noQ a (Nat.le_of_lt hlt), fun z => ?_, fun z => ?_⟩
        · have z : a = s.heap.objs.size := z
          rw [z] at hlt; exact Nat.lt_irrefl _ hlt
        · obtain ⟨o, w⟩ := Ldk a z
          exact notOld a o w hlt
      asN := fun i => by
        rw [has]; dsimp only
        split
        · exact List.nodup_nil
        · split
          · split
            · rename_i x _ _
              cases env.cells.lookup x <;> simp
            · exact List.nodup_nil
          · exact List.nodup_nil
      asD := fun i j a hij q q' => by
        obtain ⟨_, x, e5, _, hcc⟩ := asAt i a q
        obtain ⟨_, y, e6, _, hcc'⟩ := asAt j a q'
        have := same x y a hcc hcc'
        subst this
        exact hij ((List.getElem?_inj (lt_of_get e5) O.nodup).mp (e5.trans e6.symm)) }
theorem cfok_zero {tbl : Nat → Option Fn} (hF : ∀ (i : Nat) (x : Str), g.fns[i]? = some x → ∃ fa fn fd body ps ns, mg x = some (.ref fa) ∧ tbl i = some fn ∧ FnOk g X.hb fa fn fd body ps ns) : CfOk 0 X g mg (callF tbl 0) := by
  intro i x hi
  obtain ⟨fa, fn, fd, body, ps, ns, h1, h2, O⟩ := hF i x hi
  obtain ⟨o, h3, h4⟩ := O.obj
  refine ⟨fa, o, fd, h1, h3, h4, fun A P f st vs as s args vals d dk' hA I ha hg => ?_⟩
  cases hg
set_option tactic.hygienic true in
theorem cfok_succ {tbl : Nat → Option Fn} (hlim : X.hb.NoLimit)
    (hF : ∀ (i : Nat) (x : Str), g.fns[i]? = some x → ∃ fa fn fd body ps ns, mg x = some (.ref fa) ∧ tbl i = some fn ∧ FnOk g X.hb fa fn fd body ps ns ∧ ∀ L, SsOk k (calleeX X fd ns L fa) body (exs (callF tbl k) fn.body)) : CfOk (k + 1) X g mg (callF tbl (k + 1)) := by
  intro i x hi
  obtain ⟨fa, fn, fd, body, ps, ns, h1, h2, O, hB⟩ := hF i x hi
  obtain ⟨o, h3, h4⟩ := O.obj
  refine ⟨fa, o, fd, h1, h3, h4, fun A P f st vs as s args vals d dk' hA I ha hg E Q hQ => ?_⟩
  simp only [callFq1, callFq2, h2] at hg
  split at hg
  · rename_i hlen
    unfold endR at hg
    revert hg; refine bind_er2 fun c stE e1 hg => ?_
    have hvl : vals.length = ps.length := by rw [ha.len, hlen, O.np]
    refine wpAny_call ?_
    refine codeAny_call_cells (by have := hA.dep; (first | lia | omega)) (I.keepB _ _ h3) h4 (hlim.keeps I.keepB) (O.code.keeps I.keepB) O.bod (O.bind vals hvl) O.clo ?_ ?_ O.co O.gen O.kind
    · intro y hy
      obtain ⟨y1, y2⟩ := y
      have hyp := (List.of_mem_zip hy).1
      have : y1 ∈ ns := by rw [← O.pre] at hyp; exact List.mem_of_mem_take hyp
      rcases O.kinds y1 this with q | q
      · exact .inl q
      · exact .inr ⟨q, PySem.W.cellsFrom_some _ _ _ (.inl q)⟩
    · intro s₁ hin
      obtain ⟨Q0, f1, as1, hQ1, G1, I1⟩ := I.enter O ha hlen hin
      have sm1 : Same s s₁ := by obtain ⟨h, tk, e⟩ := hin.toInCall.same; subst e; exact ⟨rfl, rfl, rfl⟩
      refine hB _ _ Q0 f1 _ _ as1 s₁ c stE (hA.deeper _) I1 e1 _ _ fun fl f2 vs2 as2 s2 G2 I2 C2 sm2 => ?_
      have fin : ∀ f3, Grow Q0 f2 f3 → Inv (calleeX X fd ns s.heap.objs.size fa) Q0 f3 stE vs2 as2 s2.heap → ∀ v, Rep f3 v d → dk' = stE.dk → Q v s2 := by
        intro f3 G3 I3 v r hdk
        subst hdk
        have G := (G1.trans G2).trans G3
        refine hQ v f3 s2 (G.less fun a z => ?_) (I.after (tmp := []) (fun a o e d _ => hQ1 a o e d) (fun a q => (nomatch q)) G I3.frz I3.prs I3.deck fun a z => (I3.dkF a z).1) r (sm1.trans sm2)
        cases e : P a with
        | none => exact absurd e z
        | some o =>
          rw [hQ1 a o (I.prs a o e) fun w => by rw [(I.dkF a w).2.1] at e; cases e]
          simp
      cases C2 with
      | next =>
        cases (hg)
        exact fin f2 (.refl ..) I2 .none .none rfl
      | brk => cases (hg)
      | ret R =>
        dsimp only at hg
        split at hg
        · rename_i dd e2
          cases (hg)
          obtain ⟨f3, G3, I3, r⟩ := R.freeze I2 e2
          exact fin f3 G3 I3 _ r rfl
        · cases hg
  · cases hg
end
end Mini
end
section
set_option autoImplicit false
set_option linter.unusedVariables false
set_option linter.unusedSimpArgs false
namespace Mini
set_option tactic.hygienic false
open PySem PySem.Calls PyProof.Rows
section
variable {k : Nat} {X : Fx} {g : Glb} {c : Cx} {mg mb : Str → Option Value}
theorem closure_go {env : Env} : ∀ (names : List (Str × NameKind)) (acc : List (Str × Addr)), (∀ p ∈ names, p.2 = .free → ∃ cc, env.cells.lookup p.1 = some cc) →
    ∃ cl, (forIn names acc (fun p r => match p with | (name, kind) => if kind == .free then (do let a ← cellOf env name; pure (.yield ((name, a) :: r))) else pure (.yield r)) : Sem (List (Str × Addr))) = pure cl ∧
      (∀ x, ((x, NameKind.free) ∈ names ∨ acc.lookup x = env.cells.lookup x) → cl.lookup x = env.cells.lookup x)
  | [], acc, _ => ⟨acc, rfl, fun x h => by rcases h with h | h; cases h; exact h⟩
  | (n, kd) :: r, acc, h => by
    have hr : ∀ p ∈ r, p.2 = .free → ∃ cc, env.cells.lookup p.1 = some cc := fun p q => h p (List.mem_cons_of_mem _ q)
    by_cases hk : (kd == NameKind.free) = true
    · obtain ⟨cc, hcc⟩ := h (n, kd) (by simp) (by simpa using hk)
      obtain ⟨cl, e1, e2⟩ := closure_go r ((n, cc) :: acc) hr
      refine ⟨cl, ?_, fun x hx => ?_⟩
      · rw [List.forIn_cons]
        have hcell : cellOf env n = pure cc := by unfold cellOf; rw [hcc]
        show ((if kd == NameKind.free then (do let a ← cellOf env n; pure (ForInStep.yield ((n, a) :: acc))) else pure (ForInStep.yield acc)) >>= _ : Sem _) = _
        rw [if_pos hk, hcell]
        exact e1
      · by_cases hxn : x = n
        · subst hxn
          exact e2 x (.inr (by simp [List.lookup_cons, hcc]))
        · refine e2 x ?_
          rcases hx with hx | hx
          · rcases List.mem_cons.mp hx with z | z
            · exact absurd (congrArg Prod.fst z) hxn
            · exact .inl z
          · refine .inr ?_
            rw [List.lookup_cons]
            have : (x == n) = false := by simpa using hxn
            rw [this]; exact hx
    · obtain ⟨cl, e1, e2⟩ := closure_go r acc hr
      refine ⟨cl, ?_, fun x hx => e2 x ?_⟩
      · rw [List.forIn_cons]
        show ((if kd == NameKind.free then (do let a ← cellOf env n; pure (ForInStep.yield ((n, a) :: acc))) else pure (ForInStep.yield acc)) >>= _ : Sem _) = _
        rw [if_neg hk]
        exact e1
      · rcases hx with hx | hx
        · rcases List.mem_cons.mp hx with z | z
          · cases z; exact absurd rfl hk
          · exact .inl z
        · exact .inr hx
theorem closure_of {env : Env} {scope : Scope} (h : ∀ p ∈ scope.names, p.2 = .free → ∃ cc, env.cells.lookup p.1 = some cc) : ∃ cl, closureFor scope env = pure cl ∧ ∀ x, (x, NameKind.free) ∈ scope.names → cl.lookup x = env.cells.lookup x := by
  obtain ⟨cl, e1, e2⟩ := closure_go scope.names [] h
  refine ⟨cl, ?_, fun x hx => e2 x (.inl hx)⟩
  unfold closureFor
  have : (forIn scope.names ([] : List (Str × Addr)) fun x r => match x with | (name, kind) => if (kind == NameKind.free) = true then (do let a ← cellOf env name; pure (ForInStep.yield ((name, a) :: r))) else pure (ForInStep.yield r) : Sem _) = pure cl := e1
  simp only [bind_pure]
  exact this
theorem distinct_nodup : ∀ {xs : List Str}, distinct xs = true → xs.Nodup
  | [], _ => List.nodup_nil
  | x :: xs, h => by
    simp only [distinctq1, distinctq2, Bool.and_eq_true] at h
    refine List.nodup_cons.mpr ⟨fun q => ?_, distinct_nodup h.2⟩
    have : xs.contains x = true := by simpa using q
    rw [this] at h; cases h.1
theorem lookup_relabel_other {env : Env} {kd : NameKind} (hk : kd ≠ .free) : ∀ {names : List (Str × NameKind)} {x : Str}, names.lookup x = some kd →
    (names.map fun (n, k) => if (k == NameKind.free && env.scope.kind == .function && env.kindOf n == some .cell) then (n, NameKind.cell) else (n, k)).lookup x = some kd
  | [], _, h => by simp at h
  | (n, k) :: r, x, h => by
    have ih := @lookup_relabel_other env kd hk r x
    show List.lookup x ((if (k == NameKind.free && env.scope.kind == .function && env.kindOf n == some .cell) = true then (n, NameKind.cell) else (n, k)) :: _) = _
    cases hx : x == n with
    | true =>
      simp only [List.lookup_cons, hx] at h
      cases (h)
      have : (kd == NameKind.free) = false := by cases kd <;> first | rfl | exact absurd rfl hk
      simp [List.lookup_cons, hx, this]
    | false =>
      simp only [List.lookup_cons, hx] at h
      by_cases hc : (k == NameKind.free && env.scope.kind == .function && env.kindOf n == some .cell) = true
      · rw [if_pos hc]; simp only [List.lookup_cons, hx]; exact ih h
      · rw [if_neg hc]; simp only [List.lookup_cons, hx]; exact ih h
theorem idxOf_at {l : List Str} {x : Str} (h : x ∈ l) : l[l.idxOf x]? = some x := by
  have hi := List.idxOf_lt_length_of_mem h
  rw [List.getElem?_eq_getElem hi]
  simp
set_option tactic.hygienic true in
theorem compCtx {ts : List Str} {scope : Scope} (hE : EnvOk X) (hC : CxOk c X) (h : compOk c ts scope = true) (hne : ts ≠ []) :
    ∃ cl, CompOk X scope cl (capsOf c.outer scope) ts ∧ ∀ C, EnvOk (compX X scope cl (capsOf c.outer scope) ts C) ∧ CxOk { names := scope.names, outer := c.outer, inner := ts } (compX X scope cl (capsOf c.outer scope) ts C) := by
  simp only [compOk, Bool.and_eq_true, decide_eq_true_eq] at h
  obtain ⟨⟨⟨⟨⟨⟨⟨h1, h2⟩, h3⟩, h4⟩, h5⟩, h6⟩, h7⟩, h8⟩ := h
  have hin : c.inner = [] := by simpa using h1
  obtain ⟨t1, t2, t3, t4⟩ := hC.top hin
  have h7' : scope.names.lookup ("__debug__" : Str) = none := by simpa using h7
  have look : ∀ p ∈ scope.names, scope.names.lookup p.1 = some p.2 := fun p q => by simpa using List.all_eq_true.mp h6 p q
  have nocell : ∀ p ∈ scope.names, p.2 ≠ .cell := fun p q => by simpa using List.all_eq_true.mp h5 p q
  have hfree : ∀ p ∈ scope.names, p.2 = .free → p.1 ∈ c.outer ∧ X.env.kindOf p.1 = some .cell := fun p q e => by
    have := List.all_eq_true.mp h3 p (List.mem_filter.mpr ⟨q, by rw [e]; rfl⟩)
    simp only [Bool.and_eq_true] at this
    exact ⟨by simpa using this.1, by rw [t2]; simpa using this.2⟩
  obtain ⟨cl, hcl, hlk⟩ := closure_of (env := X.env) (scope := scope) fun p q e => t3 _ (hfree p q e).2
  have capMem : ∀ x, scope.names.lookup x = some .free → x ∈ c.outer ∧ c.outer.idxOf x ∈ capsOf c.outer scope := fun x e => by
    have hm := mem_of_lookup e
    refine ⟨(hfree _ hm rfl).1, ?_⟩
    unfold capsOf
    exact List.mem_map.mpr ⟨(x, .free), List.mem_filter.mpr ⟨hm, rfl⟩, rfl⟩
  have O : CompOk X scope cl (capsOf c.outer scope) ts := {
    kind := h4
    fn := hE.kind
    nocell := nocell
    locs := fun y q e => by rw [look y q, e]
    clos := hcl
    cap := fun i q => by
      unfold capsOf at q
      obtain ⟨p, hp, rfl⟩ := List.mem_map.mp q
      obtain ⟨hp1, hp2⟩ := List.mem_filter.mp hp
      have e : p.2 = .free := by simpa using hp2
      obtain ⟨w1, w2⟩ := hfree p hp1 e
      refine ⟨p.1, ?_, by rw [look p hp1, e], w2, hlk p.1 (by rw [← e]; exact hp1)⟩
      rw [t1, List.getElem?_map, idxOf_at w1]; rfl
    tgt := fun t q => by
      rw [h2] at q
      unfold locsOf at q
      obtain ⟨p, hp, rfl⟩ := List.mem_map.mp q
      obtain ⟨hp1, hp2⟩ := List.mem_filter.mp hp
      simp only [Bool.and_eq_true] at hp2
      have e : p.2 = .local := by simpa using hp2.1
      rw [look p hp1, e] }
  have hlen : X.names.length = c.outer.length := by rw [t1]; simp
  have nameCap : ∀ C x, scope.names.lookup x = some .free → (compX X scope cl (capsOf c.outer scope) ts C).names[c.outer.idxOf x]? = some (some x) := fun C x e => by
    obtain ⟨w1, w2⟩ := capMem x e
    have hi := List.idxOf_lt_length_of_mem w1
    simp only [compX]
    rw [List.getElem?_append_left (by simp [hlen]; exact hi), List.getElem?_mapIdx, t1, List.getElem?_map, idxOf_at w1]
    have : (capsOf c.outer scope).contains (c.outer.idxOf x) = true := by simpa using w2
    simp [this]
    exact w2
  have nameTgt : ∀ C x, x ∈ ts → (compX X scope cl (capsOf c.outer scope) ts C).names[c.outer.length + ts.idxOf x]? = some (some x) := fun C x e => by
    simp only [compX]
    rw [List.getElem?_append_right (by simp [hlen]), List.getElem?_map]
    have : c.outer.length + ts.idxOf x - (List.mapIdx (fun i x => if (capsOf c.outer scope).contains i = true then x else none) X.names).length = ts.idxOf x := by simp [hlen]
    rw [this, idxOf_at e]; rfl
  refine ⟨cl, O, fun C => ⟨⟨h4, hE.glob, hE.bi, ?_, hE.sys⟩, ?_⟩⟩
  · have nameAt : ∀ i x, (compX X scope cl (capsOf c.outer scope) ts C).names[i]? = some (some x) → (i < c.outer.length ∧ c.outer[i]? = some x ∧ i ∈ capsOf c.outer scope) ∨ (c.outer.length ≤ i ∧ ts[i - c.outer.length]? = some x) := by
      intro i x e
      simp only [compX] at e
      rcases Nat.lt_or_ge i c.outer.length with hi | hi
      · rw [List.getElem?_append_left (by simp [hlen]; exact hi), List.getElem?_mapIdx, t1, List.getElem?_map] at e
        obtain ⟨s0, e0, e⟩ := Option.map_eq_some_iff.mp e
        obtain ⟨y, e1, e2⟩ := Option.map_eq_some_iff.mp e0
        by_cases hc : (capsOf c.outer scope).contains i = true
        · rw [if_pos hc] at e
          subst e2
          cases e
          exact .inl ⟨hi, e1, by simpa using hc⟩
        · rw [if_neg hc] at e; cases e
      · rw [List.getElem?_append_right (by simp [hlen]; exact hi), List.getElem?_map] at e
        obtain ⟨y, e1, e2⟩ := Option.map_eq_some_iff.mp e
        cases e2
        simp [hlen] at e1
        exact .inr ⟨hi, e1⟩
    have apart : ∀ i x, c.outer[i]? = some x → i ∈ capsOf c.outer scope → x ∉ ts := fun i x e q z => by
      obtain ⟨y, w1, w2, _⟩ := O.cap i q
      rw [t1, List.getElem?_map, e] at w1
      cases w1
      rw [O.tgt x z] at w2; cases w2
    intro i j x e1 e2
    have ndt := distinct_nodup h8
    rcases nameAt i x e1 with ⟨a1, a2, a3⟩ | ⟨a1, a2⟩ <;> rcases nameAt j x e2 with ⟨b1, b2, b3⟩ | ⟨b1, b2⟩
    · exact (List.getElem?_inj a1 t4).mp (a2.trans b2.symm)
    · exact absurd (List.mem_of_getElem? b2) (apart i x a2 a3)
    · exact absurd (List.mem_of_getElem? a2) (apart j x b2 b3)
    · have := (List.getElem?_inj (lt_of_get a2) ndt).mp (a2.trans b2.symm)
      (first | lia | omega)
  · refine ⟨fun x e => ?_, fun x i e => ?_, h7', fun x e => ?_, fun x e => ?_, fun e => absurd e hne⟩
    · have e : scope.names.lookup x = some .globalImplicit := by simpa [Cx.isG] using e
      exact lookup_relabel_other (by decide) e
    · simp only [Cx.res] at e
      split at e
      · rename_i hl
        have : ts.isEmpty = false := by cases ts <;> first | exact absurd rfl hne | rfl
        rw [this] at e
        simp only [Bool.false_eq_true, if_false] at e
        split at e
        · rename_i hc
          cases e
          exact nameTgt C x (by simpa using hc)
        · cases e
      · rename_i hl
        have := nocell _ (mem_of_lookup hl)
        exact absurd rfl this
      · rename_i hl
        split at e
        · cases e
          exact nameCap C x hl
        · cases e
      · cases e
    · have e : scope.names.lookup x = some .local := by simpa [Cx.isL] using e
      exact lookup_relabel_other (by decide) e
    · have e : scope.names.lookup x = some .cell := by simpa [Cx.isC] using e
      exact absurd rfl (nocell _ (mem_of_lookup e))
end
end Mini
end
section
set_option autoImplicit false
set_option linter.unusedVariables false
set_option linter.unusedSimpArgs false
namespace Mini
set_option tactic.hygienic false
open PySem PySem.Calls PyProof.Rows PySem.W PySem.MeetsSeq PySem.MeetsSeq3
section
variable {k : Nat} {X : Fx} {g : Glb} {c : Cx} {mg mb : Str → Option Value}
theorem key_lt_list {prog : Program} {w : World} {A : Around} {E : Value → Shared → Prop} {s : Shared} {l b : Addr} {ws us : Array Value} {n m : Nat} {x y : List Int} {Q : Bool → Shared → Prop} (hu : A.units < cLine)
    (g1 : s.heap.get? l = some (seqObj "list" ws n)) (g2 : s.heap.get? b = some (seqObj "list" us m)) (hx : IntsAre ws.toList x) (hy : IntsAre us.toList y) (h : Q (ltI x y) s) :
    wpAny (model prog w) A (keyLt' oneType' (.ref l) (.ref b)) Q E s := by
  rw [keyLt'_oneType, oneLt'_eq]
  simp only [if_true]
  refine wpAny_bind (wpAny_cRoomFor hu ?_)
  refine wpAny_bind (wpAny_callSpecialIfBound?_slot (T := "list") ⟨_, g1, rfl⟩ F.slot_list_lt (call_meets F.slot_list_lt ⟨_, g1, rfl⟩ F.entry_list_lt (F.args_list_lt_2 _ _) (list_lt _ _ _ _ _ _ x y hx hy) ⟨g1, g2, ?_⟩))
  exact wpAny_truthy_bool h
theorem intsOf_all : ∀ l : List D, l.all isInt = true → ∃ n, intsOf l = some n
  | [], _ => ⟨[], rfl⟩
  | d :: l, q => by
    simp only [List.all_cons, Bool.and_eq_true] at q
    obtain ⟨n, hn⟩ := intsOf_all l q.2
    cases d with
    | int i => exact ⟨i :: n, by simp only [intsOfq1, intsOfq2, hn]⟩
    | _ => cases q.1
inductive KeyIs : Bool → D → Prop
  | int (i : Int) : KeyIs true (.int i)
  | list {l : List D} {n : List Int} : intsOf l = some n → KeyIs false (.list l)
theorem keysOk_is {ks : List D} (h : keysOk ks = true) : ∃ b, ∀ d ∈ ks, KeyIs b d := by
  unfold keysOk at h
  rw [Bool.or_eq_true] at h
  rcases h with h | h
  · refine ⟨true, fun d q => ?_⟩
    have := List.all_eq_true.mp h d q
    cases d with
    | int i => exact .int i
    | _ => cases this
  · refine ⟨false, fun d q => ?_⟩
    have := List.all_eq_true.mp h d q
    cases d with
    | list l => obtain ⟨n, hn⟩ := intsOf_all l this; exact .list hn
    | _ => cases this
theorem keys_weak {b : Bool} {K : Nat → D} (h : ∀ i, KeyIs b (K i)) : Weak fun i j => (plt (K i) (K j)).getD false := by
  cases b with
  | true =>
    have e : ∀ i, ∃ a, K i = .int a := fun i => by
      have := h i
      generalize K i = d at this
      cases this with
      | int a => exact ⟨a, rfl⟩
    refine ⟨fun a => ?_, fun a b c z => ?_, fun a b c z z' => ?_⟩
    · obtain ⟨x, hx⟩ := e a
      simp only [hx, plt]; simp
    · obtain ⟨x, hx⟩ := e a
      obtain ⟨y, hy⟩ := e b
      obtain ⟨u, hu⟩ := e c
      simp only [hx, hy, hu, plt, Option.getD_some, decide_eq_true_eq] at z ⊢
      (first | lia | omega)
    · obtain ⟨x, hx⟩ := e a
      obtain ⟨y, hy⟩ := e b
      obtain ⟨u, hu⟩ := e c
      simp only [hx, hy, hu, plt, Option.getD_some, decide_eq_true_eq] at z z' ⊢
      (first | lia | omega)
  | false =>
    have e : ∀ i, ∃ l n, K i = .list l ∧ intsOf l = some n := fun i => by
      have := h i
      generalize K i = d at this
      cases this with
      | list q => exact ⟨_, _, rfl, q⟩
    refine ⟨fun a => ?_, fun a b c z => ?_, fun a b c z z' => ?_⟩
    · obtain ⟨l, x, hx, hx'⟩ := e a
      simp only [hx, plt, hx', Option.getD_some]; exact ltI_irr x
    · obtain ⟨l, x, hx, hx'⟩ := e a
      obtain ⟨l2, y, hy, hy'⟩ := e b
      obtain ⟨l3, u, hu, hu'⟩ := e c
      simp only [hx, hy, hu, plt, hx', hy', hu', Option.getD_some] at z ⊢
      exact ltI_neg x y u z
    · obtain ⟨l, x, hx, hx'⟩ := e a
      obtain ⟨l2, y, hy, hy'⟩ := e b
      obtain ⟨l3, u, hu, hu'⟩ := e c
      simp only [hx, hy, hu, plt, hx', hy', hu', Option.getD_some] at z z' ⊢
      exact ltI_tr x y u z z'
set_option tactic.hygienic true in
theorem keysBy_at {cf : CF} {fi : Nat} {dk : List Int} : ∀ {l ks : List D}, keysBy cf fi l dk = some ks → ks.length = l.length ∧ ∀ (j : Nat) (d : D), l[j]? = some d → ∃ kd, ks[j]? = some kd ∧ cf fi [.fro d] dk = some (kd, dk)
  | [], ks, e => by cases e; exact ⟨rfl, fun j d q => by simp at q⟩
  | r :: l, ks, e => by
    simp only [keysByq1, keysByq2] at e
    revert e; refine bind_er2 fun kd dk' e1 e => ?_
    dsimp only at e
    split at e
    · rename_i hdk
      revert e; refine bind_er fun ks' e2 e => ?_
      cases e
      subst hdk
      obtain ⟨h1, h2⟩ := keysBy_at e2
      refine ⟨by simp [h1], fun j d q => ?_⟩
      cases j with
      | zero => simp at q; subst q; exact ⟨kd, rfl, e1⟩
      | succ j => exact h2 j d (by simpa using q)
    · cases e
noncomputable def RepP (f : Frz) (l : List (Value × Value)) (ps : List (D × D)) : Prop := l.length = ps.length ∧ ∀ (i : Nat) (a : Value × Value) (p : D × D), l[i]? = some a → ps[i]? = some p → Rep f a.1 p.1 ∧ Rep f a.2 p.2
theorem RepP.zip {f : Frz} {vs us : List Value} {ds es : List D} (h1 : RepL f vs ds) (h2 : RepL f us es) : RepP f (vs.zip us) (ds.zip es) := by
  refine ⟨by simp [h1.length, h2.length], fun i a p e1 e2 => ?_⟩
  rw [List.getElem?_zip_eq_some] at e1 e2
  obtain ⟨v, q1, r1⟩ := h1.get i e2.1
  obtain ⟨u, q2, r2⟩ := h2.get i e2.2
  rw [e1.1] at q1; cases q1
  rw [e1.2] at q2; cases q2
  exact ⟨r1, r2⟩
theorem RepP.reverse {f : Frz} {l : List (Value × Value)} {ps : List (D × D)} (h : RepP f l ps) : RepP f l.reverse ps.reverse := by
  refine ⟨by simp [h.1], fun i a p e1 e2 => ?_⟩
  have h1 : i < l.length := by have := lt_of_get e1; simpa using this
  have h2 : i < ps.length := by have := lt_of_get e2; simpa using this
  rw [List.getElem?_reverse h1] at e1
  rw [List.getElem?_reverse h2, ← h.1] at e2
  exact h.2 _ a p e1 e2
theorem map_getD {α : Type} {d : α} : ∀ (l : List α), (List.range l.length).map (fun i => l.getD i d) = l := by
  intro l
  apply List.ext_getElem?
  intro i
  rw [List.getElem?_map]
  rcases Nat.lt_or_ge i l.length with h | h
  · rw [List.getElem?_range h, List.getElem?_eq_getElem h]
    simp [List.getD, h]
  · rw [List.getElem?_eq_none (by simpa using h), List.getElem?_eq_none h]; rfl
theorem runs_ok {A : Around} {E : Value → Shared → Prop} {s : Shared} {f : Frz} {it : Array Keyed} {ps : List (D × D)} {kb : Bool} (hu : A.units < cLine) (hf : ∀ a o, f a = some o → s.heap.get? a = some o) (hr : RepP f it.toList ps) (hk : ∀ p ∈ ps, KeyIs kb p.1)
    (h2 : 2 ≤ ps.length) (h5 : ps.length ≤ 5) {Q : Unit → SortSt → Shared → Prop}
    (hQ : ∀ st', failedOf st' = none → RepL f ((arrOf st').map (·.2)).toList ((isort pl ps).map (·.2)) → Q () st' s) :
    wpAny (model X.prog X.w) A (sortRuns'.run (SortSt.mk' oneType' it #[] 7 none)) (fun r s' => Q r.1 r.2 s') E s := by
  have hsz : it.size = ps.length := by have := hr.1; simpa using this
  obtain ⟨p0, hp0⟩ : ∃ p0, ps[0]? = some p0 := ⟨ps[0]'(by (first | lia | omega)), List.getElem?_eq_getElem _⟩
  have pk : ∀ i, KeyIs kb (ps.getD i p0).1 := fun i => by
    rw [List.getD_eq_getElem?_getD]
    cases q : ps[i]? with
    | none => exact hk p0 (List.mem_of_getElem? hp0)
    | some p => exact hk p (List.mem_of_getElem? q)
  have W := keys_weak (K := fun i => (ps.getD i p0).1) pk
  obtain ⟨hok, hst⟩ := kas_stable W h2 h5
  have est : SortSt.mk' oneType' it #[] 7 none = kas_st oneType' it (List.toArray (List.range ps.length)) := by
    unfold kas_st
    rw [← hsz, kas_range]
  rw [est]
  have item : ∀ i, i < ps.length → ∃ a, it[i]? = some a ∧ kas_item it i = a ∧ Rep f a.1 (ps.getD i p0).1 ∧ Rep f a.2 (ps.getD i p0).2 := fun i hi => by
    have hi' : i < it.size := by (first | lia | omega)
    have e1 : it.toList[i]? = some it[i] := by rw [Array.getElem?_toList]; exact Array.getElem?_eq_getElem hi'
    have e2 : ps[i]? = some ps[i] := List.getElem?_eq_getElem hi
    have e3 : ps.getD i p0 = ps[i] := by rw [List.getD_eq_getElem?_getD, e2]; rfl
    obtain ⟨r1, r2⟩ := hr.2 i _ _ e1 e2
    refine ⟨it[i], Array.getElem?_eq_getElem hi', ?_, by rw [e3]; exact r1, by rw [e3]; exact r2⟩
    unfold kas_item
    simp [Array.getD, hi']
  refine kas_runs (n := ps.length) (G := fun p' s' => s' = s ∧ p'.toList = isort (fun i j => (plt (ps.getD i p0).1 (ps.getD j p0).1).getD false) (List.range ps.length)) h2 (by (first | lia | omega)) (fun p' st' s' hp1 hp2 hp3 hG => ?_) ?_
  · obtain ⟨rfl, hp⟩ := hG
    refine hQ st' hp3 ?_
    have eo : (isort pl ps) = (isort (fun i j => (plt (ps.getD i p0).1 (ps.getD j p0).1).getD false) (List.range ps.length)).map fun i => ps.getD i p0 := by
      have := isort_map (f := fun i => ps.getD i p0) (lt := pl) (List.range ps.length)
      rw [map_getD] at this
      exact this
    rw [eo, hp2, Array.toList_map, Array.toList_map, hp, List.map_map, List.map_map]
    refine RepL.ofGet (by simp) fun j v d e1 e2 => ?_
    rw [List.getElem?_map] at e1 e2
    obtain ⟨i, q1, q2⟩ := Option.map_eq_some_iff.mp e1
    rw [q1] at e2
    cases e2
    have hi : i < ps.length := List.mem_range.mp ((mem_isort _).mp (List.mem_of_getElem? q1))
    obtain ⟨a, _, w1, _, w2⟩ := item i hi
    rw [← q2]
    show Rep f (kas_item it i).2 _
    rw [w1]; exact w2
  · refine kas_wp_run (J := fun s' => s' = s) (lt := fun i j => (plt (ps.getD i p0).1 (ps.getD j p0).1).getD false) (fun i j C s' hi hj hJ hC => ?_) _ s hok rfl fun s' hJ => ⟨hJ, hst⟩
    subst hJ
    obtain ⟨a, _, w1, ra, _⟩ := item i hi
    obtain ⟨b, _, w2, rb, _⟩ := item j hj
    have ka := pk i
    have kb' := pk j
    have hC := hC s' rfl
    unfold kas_cmp
    rw [w1, w2]
    generalize (ps.getD i p0).1 = d1 at ra ka hC
    generalize (ps.getD j p0).1 = d2 at rb kb' hC
    obtain ⟨a1, a2⟩ := a
    obtain ⟨b1, b2⟩ := b
    cases ka with
    | int x =>
      cases kb' with
      | int y =>
        cases ra; cases rb
        rw [keyLt'_oneType]
        exact oneLt_int (by simpa [plt] using hC)
    | list hx =>
      cases kb' with
      | list hy =>
        cases ra with
        | list e1 _ r1 =>
          cases rb with
          | list e2 _ r2 =>
            exact key_lt_list hu (hf _ _ e1) (hf _ _ e2) (intsOf_some r1 hx) (intsOf_some r2 hy) (by simpa [plt, hx, hy] using hC)
end
end Mini
end
section
set_option autoImplicit false
set_option linter.unusedVariables false
set_option linter.unusedSimpArgs false
set_option maxHeartbeats 1000000
namespace Mini
set_option tactic.hygienic false
open PySem PySem.Calls PyProof.Rows PySem.W
section
variable {k : Nat} {X : Fx} {g : Glb} {c : Cx} {mg mb : Str → Option Value}
theorem look_int {M : Model} {h : Heap} {a : Int} {t : Tok} : Looks M h (typeOf (.int a t)) (.type "int") := Looks.of_pure rfl
theorem look_list {M : Model} {h : Heap} {a : Addr} {ws : Array Value} {n : Nat} (g : h.get? a = some (seqObj "list" ws n)) : Looks M h (typeOf (.ref a)) (.type "list") := by
  intro A Q E s kp hq
  unfold typeOf
  exact wpAny_bind (wpAny_load (kp _ _ g) (wpAny_pure hq))
theorem update_seq {h : Heap} {a : Addr} {ws : Array Value} {n : Nat} (g : h.get? a = some (seqObj "list" ws n)) (f : Array Value → Array Value) : ∃ m, (h.update a (Obj.mapSeq f)).get? a = some (seqObj "list" (f ws) m) := ⟨_, IsL.update g f⟩
theorem update_kp (h : Heap) (a : Addr) (f : Array Value → Array Value) : ∀ b o, b ∉ [a] → h.get? b = some o → (h.update a (Obj.mapSeq f)).get? b = some o := fun b o q e => (Heap.get?_update_other h _ (by simpa [eq_comm] using q)).trans e
theorem tail_ok {A : Around} {E : Value → Shared → Prop} {PP : PySem.Fin → Shared → Prop} {s : Shared} {P f : Frz} {st : St} {vs : Nat → Value} {as : Nat → List Addr} {a kS : Addr} {e1 e2 : Nat} {kA : Array Value} {rv : Bool} {ss : SortSt} {out : List D}
    (I : Inv X P f st vs as s.heap) (Fa : Free X P f as a) (Fk : Free X P f as kS) (hak : a ≠ kS) (ga : s.heap.get? a = some (seqObj "list" #[] e1)) (gk : s.heap.get? kS = some (seqObj "list" kA e2)) (hkz : kA.size ≤ sizeLine) (hfl : failedOf ss = none)
    (hr : RepL f (if rv then ((arrOf ss).map (·.2)).reverse else (arrOf ss).map (·.2)).toList out) (hol : out.length ≤ 5)
    (h : ∀ s' ws c, Inv X P f st vs as s'.heap → s'.heap.get? a = some (seqObj "list" ws c) → RepL f ws.toList out → Same s s' → PP (.done (.ret .none)) s') :
    wpAny (model X.prog X.w) A (ksk_tail a rv e1 (.ref kS) ss) PP E s := by
  have hsz : (if rv then ((arrOf ss).map (·.2)).reverse else (arrOf ss).map (·.2)).size = out.length := by have := hr.length; simpa using this
  have k1 := update_kp s.heap kS fun _ => (#[] : Array Value)
  have I1 := I.but (wr := [kS]) (fun b q => by simp at q; subst q; exact Fk) k1
  have ga1 := k1 a _ (by simpa using hak) ga
  have k2 := update_kp (s.heap.update kS (Obj.mapSeq fun _ => (#[] : Array Value))) a fun _ => if rv then ((arrOf ss).map (·.2)).reverse else (arrOf ss).map (·.2)
  have I2 := I1.but (wr := [a]) (fun b q => by simp at q; subst q; exact Fa) k2
  obtain ⟨m2, ga2⟩ := update_seq ga1 fun _ => if rv then ((arrOf ss).map (·.2)).reverse else (arrOf ss).map (·.2)
  unfold ksk_tail
  try dsimp only
  refine wpAny_bind (listUpdate_at gk rfl ?_ hkz (Nat.zero_le _))
  refine wpAny_bind (wpAny_letGo ?_)
  refine wpAny_bind (seqEpoch_at ga1 rfl ?_)
  refine wpAny_bind (listUpdate_at ga1 rfl ?_ (Nat.zero_le _) (Nat.le_trans (Nat.le_of_eq hsz) (by rw [sizeLine_eq]; (first | lia | omega))))
  rw [hfl]
  simp only [bne_self_eq_false, Bool.false_eq_true, if_false]
  exact wpAny_pure (h _ _ m2 I2 ga2 hr ⟨rfl, rfl, rfl⟩)
set_option tactic.hygienic true in
theorem sortK_some {ks l out : List D} {rv : Bool} (h : sortK ks l rv = some out) : keysOk ks = true ∧ l.length ≤ 5 ∧ ks.length = l.length ∧ out = (if rv then (isort pl (ks.zip l).reverse).reverse else isort pl (ks.zip l)).map (·.2) := by
  unfold sortK at h
  split at h
  · rename_i q
    cases h
    simp only [Bool.and_eq_true, decide_eq_true_eq] at q
    exact ⟨q.1.1, q.1.2, q.2, rfl⟩
  · cases h
theorem end_ok {A : Around} {E : Value → Shared → Prop} {PP : PySem.Fin → Shared → Prop} {s : Shared} {P f : Frz} {st : St} {vs : Nat → Value} {as : Nat → List Addr} {a kS : Addr} {e1 e2 : Nat} {kA : Array Value} {rv : Bool} {us : List Value} {ks recs out : List D}
    (hu : A.units < cLine) (I : Inv X P f st vs as s.heap) (Fa : Free X P f as a) (Fk : Free X P f as kS) (hak : a ≠ kS) (ga : s.heap.get? a = some (seqObj "list" #[] e1)) (gk : s.heap.get? kS = some (seqObj "list" kA e2))
    (rk : RepL f kA.toList ks) (rr : RepL f us recs) (hso : sortK ks recs rv = some out)
    (h : ∀ s' ws c, Inv X P f st vs as s'.heap → s'.heap.get? a = some (seqObj "list" ws c) → RepL f ws.toList out → Same s s' → PP (.done (.ret .none)) s') :
    wpAny (model X.prog X.w) A (ksk_end a rv us.toArray e1 (.ref kS) kA) PP E s := by
  obtain ⟨hok, h5, hkl, hout⟩ := sortK_some hso
  obtain ⟨kb, hkb⟩ := keysOk_is hok
  have hks : kA.size = ks.length := by have := rk.length; simpa using this
  have hul : us.length = recs.length := rr.length
  have hkz : kA.size ≤ sizeLine := by rw [hks, sizeLine_eq]; (first | lia | omega)
  have zl : (ks.zip recs).length = recs.length := by rw [List.length_zip, hkl, Nat.min_self]
  have hol : out.length ≤ 5 := by
    rw [hout, List.length_map]
    cases rv <;> simp [isort_len, zl] <;> (first | lia | omega)
  have RP : RepP f (kA.zip us.toArray).toList (ks.zip recs) := by rw [ksk_zip]; exact .zip rk rr
  have RP' : RepP f (if rv then (kA.zip us.toArray).reverse else kA.zip us.toArray).toList (if rv then (ks.zip recs).reverse else ks.zip recs) := by
    cases rv with
    | false => exact RP
    | true => simp only [if_true, Array.toList_reverse]; exact RP.reverse
  have step : ∀ t : Sem PySem.Fin, wpAny (model X.prog X.w) A t PP E s → wpAny (model X.prog X.w) A (if rv = true then (do let _ ← rule "list.sort.reverse"; t) else t) PP E s := by
    intro t ht
    split
    · exact wpAny_bind (wpAny_rule ht)
    · exact ht
  have fin : ∀ ss : SortSt, failedOf ss = none → RepL f ((arrOf ss).map (·.2)).toList ((isort pl (if rv then (ks.zip recs).reverse else ks.zip recs)).map (·.2)) → wpAny (model X.prog X.w) A (ksk_tail a rv e1 (.ref kS) ss) PP E s := by
    intro ss hfl hr
    refine tail_ok I Fa Fk hak ga gk hkz hfl ?_ hol h
    rw [hout]
    cases rv with
    | false => exact hr
    | true =>
      simp only [if_true, Array.toList_reverse, List.map_reverse]
      exact hr.reverse
  unfold ksk_end
  try dsimp only
  refine step _ ?_
  by_cases h2 : us.toArray.size < 2
  · rw [if_pos h2, if_pos h2]
    refine wpAny_bind (wpAny_pure ?_)
    rw [StateT.run_pure]
    refine wpAny_bind (wpAny_pure ?_)
    try dsimp only
    refine fin _ rfl ?_
    have hs2 : (if rv then (ks.zip recs).reverse else ks.zip recs).length < 2 := by
      rw [List.size_toArray] at h2
      cases rv <;> simp [zl] <;> (first | lia | omega)
    have eis : isort pl (if rv then (ks.zip recs).reverse else ks.zip recs) = (if rv then (ks.zip recs).reverse else ks.zip recs) := by
      generalize (if rv then (ks.zip recs).reverse else ks.zip recs) = z at hs2
      match z, hs2 with
      | [], _ => rfl
      | [x], _ => rfl
      | _ :: _ :: _, q => simp at q; (first | lia | omega)
    rw [eis]
    show RepL f (((if rv then (kA.zip us.toArray).reverse else kA.zip us.toArray)).map (·.2)).toList _
    rw [Array.toList_map]
    refine RepL.ofGet (by simpa using RP'.1) fun i v d q1 q2 => ?_
    rw [List.getElem?_map] at q1 q2
    obtain ⟨x, w1, w2⟩ := Option.map_eq_some_iff.mp q1
    obtain ⟨y, w3, w4⟩ := Option.map_eq_some_iff.mp q2
    rw [← w2, ← w4]
    exact (RP'.2 i x y w1 w3).2
  · rw [if_neg h2, if_neg h2]
    rw [List.size_toArray] at h2
    have hT : ∃ T, (∀ v ∈ kA.toList, Looks (model X.prog X.w) s.heap (typeOf v) T) ∧ (T != Value.type "tuple") = true ∧ (T == T) = true := by
      cases kb with
      | true =>
        refine ⟨.type "int", fun v q => ?_, by decide, by decide⟩
        obtain ⟨i, hi⟩ := List.getElem?_of_mem q
        obtain ⟨d, hd⟩ : ∃ d, ks[i]? = some d := ⟨ks[i]'(by have := lt_of_get hi; rw [rk.length] at this; exact this), List.getElem?_eq_getElem _⟩
        obtain ⟨v', e3, r3⟩ := rk.get i hd
        rw [hi] at e3; cases e3
        have := hkb _ (List.mem_of_getElem? hd)
        cases this with
        | int x => cases r3; exact look_int
      | false =>
        refine ⟨.type "list", fun v q => ?_, by decide, by decide⟩
        obtain ⟨i, hi⟩ := List.getElem?_of_mem q
        obtain ⟨d, hd⟩ : ∃ d, ks[i]? = some d := ⟨ks[i]'(by have := lt_of_get hi; rw [rk.length] at this; exact this), List.getElem?_eq_getElem _⟩
        obtain ⟨v', e3, r3⟩ := rk.get i hd
        rw [hi] at e3; cases e3
        have := hkb _ (List.mem_of_getElem? hd)
        cases this with
        | list x => cases r3 with | list e4 _ _ => exact look_list (I.frz _ _ e4)
    obtain ⟨T, hT, hT1, hT2⟩ := hT
    have ek : kA = kA.toList.toArray := by simp
    refine wpAny_bind ?_
    rw [ek]
    refine kas_kind (T := T) (by rw [rk.length, hkl, ← hul]; (first | lia | omega)) hT hT1 hT2 ?_
    rw [← ek]
    refine wpAny_bind (runs_ok (X := X) (Q := fun _ st' s' => wpAny (model X.prog X.w) A (ksk_tail a rv e1 (.ref kS) st') PP E s') hu I.frz RP' (kb := kb) ?_ ?_ ?_ fun st' hfl hr => ?_)
    · intro p hp
      have : p ∈ ks.zip recs := by cases rv <;> simpa using hp
      exact hkb _ (List.of_mem_zip this).1
    · cases rv <;> simp [zl] <;> (first | lia | omega)
    · cases rv <;> simp [zl] <;> (first | lia | omega)
    · exact fin st' hfl hr
theorem tree_ok {cf : CF} {fi : Nat} {kf : Str} {A : Around} {E : Value → Shared → Prop} {PP : PySem.Fin → Shared → Prop} {s : Shared} {P f : Frz} {st : St} {vs : Nat → Value} {as : Nat → List Addr} {a fa : Addr} {n : Nat} {rv : Bool} {us : List Value} {ks recs out : List D}
    (hA : COk k A) (hcall : ∀ (A : Around) (P f : Frz) (st : St) (vs : Nat → Value) (as : Nat → List Addr) (s : Shared) (args : List Slot) (vals : List Value) (d : D) (dk' : List Int), COk k A → Inv X P f st vs as s.heap → ArgsOk X f vals args → cf fi args st.dk = some (d, dk') →
      ∀ (E : Value → Shared → Prop) (Q : Value → Shared → Prop),
        (∀ v f' s', Grow P f f' → Inv X P f' { st with dk := dk' } vs as s'.heap → Rep f' v d → Same s s' → Q v s') → wpAny (model X.prog X.w) A (call (.ref fa) vals) Q E s)
    (I : Inv X P f st vs as s.heap) (Fa : Free X P f as a) (ga : s.heap.get? a = some (seqObj "list" us.toArray n)) (rr : RepL f us recs) (hks : keysBy cf fi recs st.dk = some ks) (hso : sortK ks recs rv = some out)
    (h : ∀ f' s' ws c, Grow P f f' → Inv X P f' st vs as s'.heap → s'.heap.get? a = some (seqObj "list" ws c) → RepL f' ws.toList out → Free X P f' as a → Same s s' → PP (.done (.ret .none)) s') :
    wpAny (model X.prog X.w) A (ksk_tree a (.ref fa) rv) PP E s := by
  obtain ⟨hok, h5, hkl, hout⟩ := sortK_some hso
  obtain ⟨hkl', hkey⟩ := keysBy_at hks
  have hul : us.length = recs.length := rr.length
  have k1 := update_kp s.heap a fun _ => (#[] : Array Value)
  have I1 := I.but (wr := [a]) (fun b q => by simp at q; subst q; exact Fa) k1
  obtain ⟨e1, ga1⟩ := update_seq ga fun _ => (#[] : Array Value)
  have I2 := (I1.ext (h' := (s.heap.update a (Obj.mapSeq fun _ => (#[] : Array Value))).push (seqObj "tuple" us.toArray 0)) fun b o e => Heap.get?_push_of_some _ e)
  generalize hH : (s.heap.update a (Obj.mapSeq fun _ => (#[] : Array Value))).push (seqObj "tuple" us.toArray 0) = H at I2
  have ga2 : H.get? a = some (seqObj "list" #[] e1) := by rw [← hH]; exact Heap.get?_push_of_some _ ga1
  have I3 := I2.ext (h' := H.push (seqObj "list" #[] 0)) fun b o e => Heap.get?_push_of_some _ e
  have Fk := I2.freshB (b := H.objs.size) (Nat.le_refl _)
  have gk : (H.push (seqObj "list" #[] 0)).get? H.objs.size = some (seqObj "list" #[] 0) := Heap.get?_push_size _ rfl
  have ga3 : (H.push (seqObj "list" #[] 0)).get? a = some (seqObj "list" #[] e1) := Heap.get?_push_of_some _ ga2
  have hak : a ≠ H.objs.size := Nat.ne_of_lt (Heap.lt_size ga2)
  generalize hkS : H.objs.size = kS at Fk gk hak
  generalize hH3 : H.push (seqObj "list" #[] 0) = H3 at I3 gk ga3
  unfold ksk_tree
  refine wpAny_bind (listItems_at ga rfl ?_)
  refine wpAny_bind (listUpdate_at ga rfl ?_ (by rw [List.size_toArray, sizeLine_eq]; (first | lia | omega)) (Nat.zero_le _))
  refine wpAny_bind (seqEpoch_at ga1 rfl ?_)
  refine wpAny_bind (wpAny_newTuple ?_ (by show us.length ≤ _; rw [sizeLine_eq]; (first | lia | omega)))
  refine wpAny_bind (wpAny_newList ?_ (Nat.zero_le _))
  refine wpAny_holding ?_
  show wpAny _ _ (ksk_rest a (.ref fa) rv us.toArray e1 (.ref ((s.heap.update a (Obj.mapSeq fun _ => (#[] : Array Value))).push (seqObj "tuple" us.toArray 0)).objs.size)) PP E { s with heap := ((s.heap.update a (Obj.mapSeq fun _ => (#[] : Array Value))).push (seqObj "tuple" us.toArray 0)).push (seqObj "list" #[] 0) }
  rw [hH, hkS, hH3]
  unfold ksk_rest
  refine wpAny_bind (wpAny_rule ?_)
  rw [List.forIn_toArray]
  refine wpAny_bind (ksk_fold (fun i s' => ∃ f' kA e, Grow P f f' ∧ Inv X P f' st vs as s'.heap ∧ s'.heap.get? a = some (seqObj "list" #[] e1) ∧ s'.heap.get? kS = some (seqObj "list" kA e) ∧ RepL f' kA.toList (ks.take i) ∧ Free X P f' as a ∧ Free X P f' as kS ∧ Same s s') us 0 _
    ⟨f, #[], 0, .refl .., I3, ga3, gk, by simpa using RepL.nil, Fa, Fk, ⟨rfl, rfl, rfl⟩⟩ ?step ?done)
  case step =>
    rintro j x s' hx ⟨f', kA, e, G, J, gaJ, gkJ, rk, FaJ, FkJ, Sm⟩
    simp only [Nat.zero_add] at rk ⊢
    have hj : j < us.length := lt_of_get hx
    obtain ⟨d, hd⟩ : ∃ d, recs[j]? = some d := ⟨recs[j]'(by (first | lia | omega)), List.getElem?_eq_getElem _⟩
    obtain ⟨kd, hkd, hcf⟩ := hkey j d hd
    obtain ⟨v, hv, rd⟩ := rr.get j hd
    rw [hx] at hv; cases hv
    have hz : kA.size ≤ 5 := by
      have h1 := rk.length
      rw [Array.length_toList, List.length_take] at h1
      (first | lia | omega)
    obtain ⟨P2, H2, J2⟩ := J.holdAll [a, kS] (fun b q => by
      simp at q
      rcases q with rfl | rfl
      · exact ⟨FaJ.p, FaJ.l, FaJ.d, FaJ.a, _, gaJ⟩
      · exact ⟨FkJ.p, FkJ.l, FkJ.d, FkJ.a, _, gkJ⟩) (by simpa using hak)
    have ne2 : ∀ b ∈ [a, kS], P2 b ≠ none := fun b q => by obtain ⟨o, w1, w2⟩ := H2.at' b q; rw [w2]; simp
    refine wpAny_bind (wpAny_attempt (hcall A P2 f' st vs as s' [.fro d] [x] kd st.dk hA J2 (.cons (.fro (rd.mono G.sub)) .nil) hcf _ _ fun v f2 s2 G2 J3 r3 Sm2 => ?_))
    try dsimp only
    have kept : ∀ b ∈ [a, kS], ∀ o, s'.heap.get? b = some o → s2.heap.get? b = some o := fun b q o e => by
      obtain ⟨o', w1, w2⟩ := H2.at' b q
      rw [e] at w1; cases w1
      exact J3.prs b o w2
    have Fa2 := FaJ.later (ne2 a (by simp)) G2 J3
    have Fk2 := FkJ.later (ne2 kS (by simp)) G2 J3
    have J4 := J3.less H2.sub I.base
    have ga4 := kept a (by simp) _ gaJ
    have gk4 := kept kS (by simp) _ gkJ
    have k5 := update_kp s2.heap kS (·.push v)
    obtain ⟨m5, gk5⟩ := update_seq gk4 (·.push v)
    have ek : ks.take (j + 1) = ks.take j ++ [kd] := by rw [List.take_add_one, hkd]; simp
    refine wpAny_bind (listUpdate_at gk4 rfl ?_ (by rw [sizeLine_eq]; (first | lia | omega)) (Nat.le_trans (Nat.le_of_eq (Array.size_push ..)) (by rw [sizeLine_eq]; (first | lia | omega))))
    refine wpAny_pure ⟨rfl, f2, kA.push v, m5, G.trans (G2.less H2.sub.ne), J4.but (wr := [kS]) (fun b q => by simp at q; subst q; exact Fk2) k5, k5 a _ (by simpa using hak) ga4, gk5, by rw [ek]; exact push_rep (rk.mono G2.sub) r3, Fa2, Fk2, (Sm.trans Sm2).trans ⟨rfl, rfl, rfl⟩⟩
  case done =>
    rintro s' ⟨f', kA, e, G, J, gaJ, gkJ, rk, FaJ, FkJ, Sm⟩
    have rk' : RepL f' kA.toList ks := by
      have e3 : ks.take (0 + us.length) = ks := List.take_of_length_le (by (first | lia | omega))
      rw [e3] at rk
      exact rk
    try dsimp only
    refine wpAny_bind (listItems_at gkJ rfl ?_)
    exact end_ok (by have := hA.un; (first | lia | omega)) J FaJ FkJ hak gaJ gkJ rk' (rr.mono G.sub) hso fun s2 ws c I2 g2 r2 Sm2 => h f' s2 ws c G I2 g2 r2 FaJ (Sm.trans Sm2)
theorem rok_sorted {cf : CF} {fn kf kn rn : Str} {p kp kpos rpos pos : Pos} {x e : Expr} {fi : Nat} {r q : R} (G : Gnd g X.hb mg mb) (hE : EnvOk X) (hC : CxOk c X) (hcf : CfOk k X g mg cf) (hx : c.isG fn = true) (hfn : fn = ("sorted" : Str)) (hkf : c.isG kf = true) (hi : g.fns[fi]? = some kf)
    (hkn : kn = ("key" : Str)) (hrn : rn = ("reverse" : Str)) (hs : notStar x = true) (h : ROk k X x r) (h2 : ROk k X e q) : ROk k X (.Call (.Name fn p) [x] [⟨some kn, .Name kf kp, kpos⟩, ⟨some rn, e, rpos⟩] pos) (sortedR cf fi r q) := by
  refine ROk.of ?_ rfl
  intro A P f st vs as s sl st' hA I hg E Q hQ
  refine bind_el2 hg fun d st1 e1 hg1 => ?_
  refine bind_el2 hg1 fun d2 st2 e2 hg2 => ?_
  refine bind_el hg2 fun l e3 hg3 => ?_
  clear hg hg1 hg2
  cases d <;> cases e3
  cases d2 with
  | bool rv =>
    refine bind_el hg3 fun ks e4 hg4 => ?_
    refine bind_el hg4 fun o e5 hg5 => ?_
    clear hg3 hg4
    cases hg5
    subst hfn hkn hrn
    obtain ⟨fa, ob, fd, hmg, ho, hd, hcall⟩ := hcf fi kf hi
    have ht : backTo pos (starEach [x] X.env) = [(false, eval x X.env)] := by rw [starEach_cons hs]; rfl
    refine wpAny_Call_Name_kw (wp_builtin G hE hC I hx (v := .builtin "sorted") (by simp [bootV]) ?_)
    refine callWith_kw (rest := []) ?_ (by rw [ht]; rfl) (by rw [ht]; rfl) rfl rfl
    rw [ht]
    refine spliced_cons (h.F A P f st vs as s _ st1 hA I e1 E _ fun v f1 as1 s1 G1 I1 r1 S1 => spliced_nil ?_)
    refine kws_cons (Name_function_global hE.kind (hC.isG kf hkf) (loadGlobal_global (by rw [hE.glob]; exact G.gn.keeps I1.keepB) hmg ?_) (hC.dG hkf))
    refine kws_cons (h2.F A P f1 st1 vs as1 s1 _ _ hA I1 e2 E _ fun u f2 as2 s2 G2 I2 r2 S2 => kws_nil ?_)
    cases r2 with
    | bool rv =>
    have r1 := r1.mono G2.sub
    cases r1 with
    | @list a ws n _ ea k' rr =>
      have ga := I2.frz _ _ ea
      have hws : ws.toList.toArray = ws := by simp
      have hlen : ws.toList.length ≤ sizeLine := by rw [rr.length, sizeLine_eq]; unfold lim at k'; (first | lia | omega)
      have hl : s2.heap.IsList a ws.toList.toArray := by rw [hws]; exact ⟨_, ga, rfl, _, rfl⟩
      show wpAny _ _ (call (.builtin "sorted") [.ref a] [(Str.ofString "key", .ref fa), (Str.ofString "reverse", .bool rv)]) Q E s2
      refine call_function_entry_kw kind_sorted plain_sorted entry_sorted (ksk_s2 _ _ _) ?_
      unfold Builtin.«sorted»
      refine wpAny_bind (m := checkCount "sorted" 1 1 _) (wpAny_pure ?_)
      refine wpAny_bind (collect_list hl ?_ hlen)
      refine wpAny_bind (wpAny_newList ?_ hlen)
      generalize hH1 : (s2.heap.push (seqObj "list" #[] 0)).update s2.heap.objs.size (Obj.mapSeq (· ++ ws.toList.toArray)) = H1
      have hsz : H1.objs.size = s2.heap.objs.size + 1 := by rw [← hH1, Heap.size_update, size_push']
      have keep1 : ∀ b o, s2.heap.get? b = some o → H1.get? b = some o := fun b o q => by
        have hlt : b < s2.heap.objs.size := Heap.lt_size q
        rw [← hH1, Heap.get?_update_ne _ _ _ _ (Nat.ne_of_lt hlt), Heap.get?_push_ne _ _ _ (Nat.ne_of_lt hlt)]
        exact q
      have I3 := I2.ext keep1
      have I4 := I3.ext (h' := H1.push (seqObj "list" ws.toList.toArray 0)) fun b o e => Heap.get?_push_of_some _ e
      have gD : (H1.push (seqObj "list" ws.toList.toArray 0)).get? H1.objs.size = some (seqObj "list" ws.toList.toArray 0) := Heap.get?_push_size _ rfl
      have FD := I3.freshB (b := H1.objs.size) (Nat.le_refl _)
      refine wpAny_bind (wpAny_holding (wpAny_call_entry_kw slot_list_sort ⟨_, gD, rfl⟩ entry_list_sort ?body (ksk_l2 _ _ _)))
      case body =>
        show wpAny (model X.prog X.w) A.in1.in1 (Builtin.«list.sort» ⟨[.ref H1.objs.size], [(Str.ofString "key", .ref fa), (Str.ofString "reverse", .bool rv)]⟩) _ _ _
        rw [ksk_t2]
        refine tree_ok (kf := kf) (s := { s2 with heap := H1.push (seqObj "list" ws.toList.toArray 0) }) hA.call2 hcall I4 FD gD rr e4 e5 fun f3 s3 ws3 c3 G3 I5 g3 r3 FD3 S3 => ⟨_, rfl, ?_⟩
        refine wpAny_pure ⟨_, rfl, hQ _ f3 as2 [H1.objs.size] s3 ((G1.trans G2).trans G3) I5 ⟨.own g3 ?_ r3, fun b q => ?_, by simp⟩ ((S1.trans S2).trans ⟨S3.1, S3.2, S3.3⟩)⟩
        · obtain ⟨_, h5, hkl, hout⟩ := sortK_some e5
          rw [hout, List.length_map]
          unfold lim at k' ⊢
          cases rv <;> simp [isort_len] <;> (first | lia | omega)
        · simp at q; subst q; exact ⟨FD3.f, FD3.p, FD3.l, FD3.d, FD3.a⟩
  | _ => cases hg3
end
end Mini
end
section
set_option autoImplicit false
set_option linter.unusedVariables false
set_option linter.unusedSimpArgs false
namespace Mini
set_option tactic.hygienic false
open PySem PySem.Calls PyProof.Rows
section
variable {k : Nat} {g : Glb} {mg mb : Str → Option Value} {cf : CF} {B : Fx}
structure Base (B X : Fx) : Prop where
  hb : X.hb = B.hb
  dk : X.dk = B.dk
  prog : X.prog = B.prog
  w : X.w = B.w
structure Ctx (B X : Fx) (c : Cx) : Prop where
  base : Base B X
  env : EnvOk X
  cx : CxOk c X
structure TrOk (k : Nat) (g : Glb) (cf : CF) (B : Fx) (n : Nat) : Prop where
  e : ∀ (c : Cx) (X : Fx) (x : Expr) (a : Ex), Ctx B X c → trE g c n x = some a → ROk k X x (ev cf a)
  c : ∀ (c : Cx) (X : Fx) (l : Expr) (o : CmpOp) (r : Expr) (a : Ex), Ctx B X c → trC g c n l o r = some a → ∀ pos, ROk k X (.Compare l [o] [r] pos) (ev cf a)
  f : ∀ (c : Cx) (X : Fx) (f : Str) (args : List Expr) (kws : List Keyword) (a : Ex), Ctx B X c → trCall g c n f args kws = some a → ∀ p pos, ROk k X (.Call (.Name f p) args kws pos) (ev cf a)
  l : ∀ (c : Cx) (X : Fx) (es : List Expr) (a : Exs), Ctx B X c → trL g c n es = some a → LOk k X es (evL cf a) ∧ ALOk k X es (evA cf a) ∧ SLOk k X es (evS cf a) ∧ TsOk k X es (evC cf a)
  o : ∀ (c : Cx) (X : Fx) (lo : Option Expr) (a : Ox), Ctx B X c → trO g c n lo = some a → OOk k X lo (evO cf a)
  i : ∀ (c : Cx) (X : Fx) (it : Expr) (a : It), Ctx B X c → trI g c n it = some a → ∀ tgt, tgtOk tgt a = true → IOk k X it tgt (evI cf a)
theorem two_some {α : Type} : ∀ {l : List α} {p : α × α}, two l = some p → l = [p.1, p.2]
  | [x, y], p, h => by cases h; rfl
theorem nil_of {α : Type} : ∀ {l : List α}, l.isEmpty = true → l = []
  | [], _ => rfl
theorem sliceOf_some {e : Expr} {p : Option Expr × Option Expr × Option Expr} (h : sliceOf e = some p) : ∃ q, e = .Slice p.1 p.2.1 p.2.2 q :=
  let ⟨x, h1, h2⟩ := get_map (k := 5) h
  ⟨x.2.2.2, h2 ▸ h1⟩
theorem attrOf_some {e : Expr} {p : Expr × Str × PySem.Pos} (h : attrOf e = some p) : e = .Attribute p.1 p.2.1 p.2.2 := get_some (k := 6) h
theorem subOf_some {e : Expr} {p : Expr × Expr} (h : subOf e = some p) : ∃ q, e = .Subscript p.1 p.2 q :=
  let ⟨x, h1, h2⟩ := get_map (k := 7) h
  ⟨x.2.2, h2 ▸ h1⟩
theorem callOf_some {e : Expr} {p : Expr × List Expr × List Keyword × PySem.Pos} (h : callOf e = some p) : e = .Call p.1 p.2.1 p.2.2.1 p.2.2.2 := get_some (k := 8) h
theorem ite_some {α : Type} {p : Prop} [Decidable p] {x : Option α} {a : α} (h : (if p then x else none) = some a) : p ∧ x = some a := by
  by_cases q : p
  · rw [if_pos q] at h; exact ⟨q, h⟩
  · rw [if_neg q] at h; cases h
theorem isNone_of {α : Type} {o : Option α} (h : ∀ y, o = some y → False) : o.isNone = true := by
  cases o with
  | none => rfl
  | some y => exact (h y rfl).elim
theorem tr_notStar {n : Nat} {c : Cx} {x : Expr} {a : Ex} (h : trE g c n x = some a) : notStar x = true :=
  isNone_of fun y e => by
    rw [get_some e] at h
    cases n <;> exact nomatch h
theorem tr_notSet {n : Nat} {c : Cx} {x : Expr} {a : Ex} (h : trE g c n x = some a) : notSet x = true :=
  isNone_of fun y e => by
    rw [get_some e] at h
    cases n <;> exact nomatch h
theorem notSet_marks {x : Expr} {o : CmpOp} (h : notSet x = true) (ho : o = .In ∨ o = .NotIn) : behindInMarks o x = false := by
  rcases ho with rfl | rfl <;> cases x <;> first | rfl | cases h
theorem notSet_folded {x : Expr} {env : Env} (h : notSet x = true) : ∀ v, foldedSetIterable x env v = pure v := by
  intro v
  cases x <;> first | rfl | cases h
theorem tri_notSet {n : Nat} {c : Cx} {x : Expr} {a : It} (h : trI g c n x = some a) : notSet x = true :=
  isNone_of fun y e => by
    rw [get_some e] at h
    cases n with
    | zero => exact nomatch h
    | succ n =>
      obtain ⟨a1, e1, h⟩ := bind_some (show (do let a ← trE g c n ((fm 10).to y); some (It.val a)) = some a from h)
      cases n <;> exact nomatch e1
theorem trl_notStar {n : Nat} {c : Cx} {x : Expr} {xs : List Expr} {a : Exs} (h : trL g c n (x :: xs) = some a) : notStar x = true := by
  cases n with
  | zero => cases h
  | succ n =>
    rw [trLq3] at h
    revert h; refine bind_er fun a1 e1 h => ?_
    exact tr_notStar e1
theorem emptyList_some {r : Expr} (h : isEmptyList r = true) : ∃ p, r = .List [] p := by
  obtain ⟨es, h1, h2⟩ := any_some h
  obtain ⟨p, h3⟩ := listOf_some h1
  exact ⟨p, nil_of h2 ▸ h3⟩
theorem sortKw_some {c : Cx} {kws : List Keyword} {i : Nat} {e : Expr} (h : sortKw g c kws = some (i, e)) : ∃ kn kf kp kpos rn rpos, kws = [⟨some kn, .Name kf kp, kpos⟩, ⟨some rn, e, rpos⟩] ∧ kn = ("key" : Str) ∧ rn = ("reverse" : Str) ∧ fnOf g c kf = some i := by
  obtain ⟨⟨⟨k1, v1, p1⟩, ⟨k2, v2, p2⟩⟩, e1, h⟩ := bind_some h
  revert h; refine bind_r4 fun k e2 f e3 r e4 i' e5 h => ?_
  obtain ⟨q, h⟩ := ite_some h
  cases h
  obtain ⟨q1, q2⟩ := Bool.and_eq_true_iff.mp q
  obtain ⟨kp, e6⟩ := nameOf_some e3
  have e2 : k1 = some k := e2
  have e4 : k2 = some r := e4
  have e6 : v1 = .Name f kp := e6
  subst e2 e4 e6
  exact ⟨k, f, kp, p1, r, p2, two_some e1, eq_of_beq q1, eq_of_beq q2, e5⟩
theorem varOf_some {c : Cx} {x : Expr} {i : Nat} (h : varOf c x = some i) : ∃ y p, x = .Name y p ∧ c.res y = some i := by
  obtain ⟨y, h1, h⟩ := bind_some (f := c.res) h
  obtain ⟨p, h2⟩ := nameOf_some h1
  exact ⟨y, p, h2, h⟩
theorem Base.gnd {X : Fx} (b : Base B X) (hG : Gnd g B.hb mg mb) : Gnd g X.hb mg mb := by rw [b.hb]; exact hG
theorem isNm_some {t : Expr} (h : isNm t = true) : ∃ x p, t = .Name x p := by
  obtain ⟨x, h1⟩ := Option.isSome_iff_exists.mp h
  exact ⟨x, nameOf_some h1⟩
theorem isTup2_some {t : Expr} (h : isTup2 t = true) : ∃ e1 e2 es q p, t = .Tuple (e1 :: e2 :: es) q p := by
  obtain ⟨es, h1, h2⟩ := any_some h
  obtain ⟨q, p, h3⟩ := tupOf_some h1
  match es, h2, h3 with
  | e1 :: e2 :: es, _, h3 => exact ⟨e1, e2, es, q, p, h3⟩
theorem tgt_two {tgt : Expr} {a : It} (h : tgtOk tgt a = true) : tgtTwo tgt = true := by
  cases a with
  | val => exact h
  | range => exact Bool.or_eq_true_iff.mpr (.inl h)
  | enum => exact Bool.or_eq_true_iff.mpr (.inr h)
  | zip => exact Bool.or_eq_true_iff.mpr (.inr h)
theorem tgts_ne {tgt : Expr} {ts : List Str} (h : tgtsOf tgt = some ts) (h2 : tgtTwo tgt = true) : ts ≠ [] := by
  rintro rfl
  cases tgt with
  | Name x p => exact nomatch h
  | Tuple es q p => exact absurd (two_len h2) (by rw [namesOf_len (show namesOf es = some [] from h)]; decide)
  | _ => exact nomatch h
theorem call_cg {f f2 : Expr} {a a2 : List Expr} {k k2 : List Keyword} {p : Pos} (h1 : f = f2) (h2 : a = a2) (h3 : k = k2) : Expr.Call f a k p = .Call f2 a2 k2 p := by rw [h1, h2, h3]
theorem byVar_el {P : Ex → Prop} {fE : Expr → Option Ex} {c : Cx} {v : Expr} {f : Nat → Ex} {q : Ex → Ex} {a : Ex} (h : byVar fE c v f q = some a) (k1 : ∀ y p i, v = .Name y p → c.res y = some i → P (f i)) (k2 : ∀ a1, fE v = some a1 → P (q a1)) : P a := by
  have h : (match varOf c v with | some i => some (f i) | none => (fE v).map q) = some a := h
  revert h
  cases e : varOf c v with
  | some i =>
    intro h
    obtain ⟨y, p, e1, e2⟩ := varOf_some e
    exact on_el h fun h => h ▸ k1 y p i e1 e2
  | none =>
    intro h
    obtain ⟨a1, e1, e2⟩ := Option.map_eq_some_iff.mp h
    exact e2 ▸ k2 a1 e1
theorem step_ix {n : Nat} (ih : TrOk k g cf B n) {c : Cx} {X : Fx} {v i : Expr} {p : PySem.Pos} {a : Ex} (C : Ctx B X c) (h : trIx (trE g c n) c v i = some a) : ROk k X (.Subscript v i p) (ev cf a) := by
  revert h; refine bind_er fun b e1 h => ?_
  refine byVar_el (P := fun a => ROk k X (.Subscript v i p) (ev cf a)) h (fun y q j e e2 => ?_) fun a1 e2 => rok_idx (ih.e c X _ _ C e2) (ih.e c X _ _ C e1)
  rw [e]
  exact rok_idxVar C.env.fx (C.cx.dR e2) (C.cx.res _ _ e2) (ih.e c X _ _ C e1)
theorem step_sl0 {n : Nat} (ih : TrOk k g cf B n) {c : Cx} {X : Fx} {v : Expr} {lo hi : Option Expr} {q p : PySem.Pos} {a : Ex} (C : Ctx B X c) (h : trSl0 (trE g c n) (trO g c n) c v lo hi = some a) : ROk k X (.Subscript v (.Slice lo hi none q) p) (ev cf a) := by
  revert h; refine bind_r2 fun l e1 hh e2 h => ?_
  have r1 := ih.o c X _ _ C e1
  have r2 := ih.o c X _ _ C e2
  refine byVar_el (P := fun a => ROk k X (.Subscript v (.Slice lo hi none q) p) (ev cf a)) h (fun y q j e e3 => ?_) fun a1 e3 => rok_slice (ih.e c X _ _ C e3) r1 r2
  rw [e]
  exact rok_sliceVar C.env.fx (C.cx.dR e3) (C.cx.res _ _ e3) r1 r2
theorem step_rev {n : Nat} (ih : TrOk k g cf B n) {c : Cx} {X : Fx} {v s : Expr} {lo hi : Option Expr} {q p : PySem.Pos} {a : Ex} (C : Ctx B X c) (h : trRev (trE g c n) v lo hi s = some a) : ROk k X (.Subscript v (.Slice lo hi (some s) q) p) (ev cf a) := by
  revert h; refine ite_er fun w h => ?_
  obtain ⟨a1, e1, e2⟩ := Option.map_eq_some_iff.mp h
  obtain ⟨q12, q3⟩ := Bool.and_eq_true_iff.mp w
  obtain ⟨q1, q2⟩ := Bool.and_eq_true_iff.mp q12
  rw [← e2, Option.isNone_iff_eq_none.mp q1, Option.isNone_iff_eq_none.mp q2]
  exact rok_rev (ih.e c X _ _ C e1) q3
theorem step_sl {n : Nat} (ih : TrOk k g cf B n) {c : Cx} {X : Fx} {v : Expr} {w : Option Expr × Option Expr × Option Expr} {q p : PySem.Pos} {a : Ex} (C : Ctx B X c) (h : trSl (trE g c n) (trO g c n) c v w = some a) : ROk k X (.Subscript v (.Slice w.1 w.2.1 w.2.2 q) p) (ev cf a) := by
  obtain ⟨lo, hi, st⟩ := w
  cases st with
  | none => exact step_sl0 ih C h
  | some s => exact step_rev ih C h
theorem step_sub {n : Nat} (ih : TrOk k g cf B n) {c : Cx} {X : Fx} {v i : Expr} {p : PySem.Pos} {a : Ex} (C : Ctx B X c) (h : trE g c (n + 1) (.Subscript v i p) = some a) : ROk k X (.Subscript v i p) (ev cf a) := by
  have h : (match sliceOf i with | some p => trSl (trE g c n) (trO g c n) c v p | none => trIx (trE g c n) c v i) = some a := h
  revert h
  cases e0 : sliceOf i with
  | none => exact step_ix ih C
  | some w =>
    intro h
    obtain ⟨qp, e⟩ := sliceOf_some e0
    rw [e]
    exact step_sl ih C h
theorem step_pop {c : Cx} {X : Fx} {f : Expr} {args : List Expr} {kws : List Keyword} {pos : PySem.Pos} {a : Ex} (C : Ctx B X c) (h : trPop c f args kws pos = some a) : ROk k X (.Call f args kws pos) (ev cf a) := by
  revert h; refine bind_er fun q e1 h => ?_
  revert h; refine bind_r2 fun x e2 i e h => ?_
  revert h; refine ite_er fun w h => ?_
  obtain ⟨q1, q2⟩ := Bool.and_eq_true_iff.mp w
  obtain ⟨q3, q4⟩ := Bool.and_eq_true_iff.mp q2
  obtain ⟨p, e3⟩ := nameOf_some e2
  rw [attrOf_some e1, nil_of q1, e3]
  by_cases ha : args.isEmpty = true
  · refine on_el ((if_pos ha).symm.trans h) fun h => h ▸ ?_
    rw [nil_of ha]
    exact rok_pop C.env.fx (C.cx.dR e) (C.cx.res _ _ e) (eq_of_beq q3) q4
  · have h := (if_neg ha).symm.trans h
    revert h; refine ite_er fun q5 h => ?_
    exact on_el h fun h => h ▸ rok_pop0 C.env.fx (C.cx.dR e) (C.cx.res _ _ e) (eq_of_beq q3) q5 q4
theorem step_call {n : Nat} (ih : TrOk k g cf B n) {c : Cx} {X : Fx} {f : Expr} {args : List Expr} {kws : List Keyword} {pos : PySem.Pos} {a : Ex} (C : Ctx B X c) (h : trE g c (n + 1) (.Call f args kws pos) = some a) : ROk k X (.Call f args kws pos) (ev cf a) := by
  have h : (match nameOf f with | some x => trCall g c n x args kws | none => trPop c f args kws pos) = some a := h
  revert h
  cases e0 : nameOf f with
  | some x =>
    intro h
    obtain ⟨p, e⟩ := nameOf_some e0
    rw [e]
    exact ih.f c X _ _ _ _ C h _ _
  | none => exact step_pop C
theorem step_con {X : Fx} {v : Const} {kd : Nat} {p : Pos} {a : Ex} (h : trK v = some a) : ROk k X (.Constant v kd p) (ev cf a) := by
  cases v with
  | none => cases h; exact ROk.of val_none rfl
  | bool b => cases h; exact ROk.of val_bool rfl
  | int i => cases h; exact ROk.of val_int rfl
  | _ => exact no_el h
theorem step_nm (hG : Gnd g B.hb mg mb) {c : Cx} {X : Fx} {x : Str} {p : Pos} {a : Ex} (C : Ctx B X c) (h : trNm g c x = some a) : ROk k X (.Name x p) (ev cf a) := by
  have h : (match c.res x with | some i => some (Ex.var i) | none => if c.isG x then (g.consts.lookup x).map .int else none) = some a := h
  revert h
  cases e : c.res x with
  | some i => exact fun h => on_el h fun h => h ▸ rok_var C.env.fx (C.cx.dR e) (C.cx.res _ _ e)
  | none =>
    refine ite_er fun hg h => ?_
    obtain ⟨i, e2, e3⟩ := Option.map_eq_some_iff.mp h
    exact e3 ▸ rok_const (C.base.gnd hG) C.env C.cx hg e2
theorem ok_bin {X : Fx} {l r : Expr} {op : Operator} {p : Pos} {a1 a2 a : Ex} (r1 : ROk k X l (ev cf a1)) (r2 : ROk k X r (ev cf a2)) (h : binEx op a1 a2 = some a) : ROk k X (.BinOp l op r p) (ev cf a) := by
  cases op with
  | Add => cases h; exact ROk.of (val_bin r1 r2 op_add fun A E Q s q => wpAny_BinOp q) rfl
  | Sub => cases h; exact ROk.of (val_bin r1 r2 op_sub fun A E Q s q => wpAny_BinOp q) rfl
  | Mult => cases h; exact ROk.of (val_bin r1 r2 op_mul fun A E Q s q => wpAny_BinOp q) rfl
  | Mod => cases h; exact ROk.of (val_bin r1 r2 op_mod fun A E Q s q => wpAny_BinOp q) rfl
  | _ => exact no_el h
theorem ok_un {X : Fx} {x : Expr} {op : UnaryOp} {p : Pos} {a1 a : Ex} (r1 : ROk k X x (ev cf a1)) (h : unEx op a1 = some a) : ROk k X (.UnaryOp op x p) (ev cf a) := by
  cases op with
  | USub => cases h; exact ROk.of (val_un r1 op_neg fun A E Q s q => wpAny_UnaryOp q) rfl
  | Not => cases h; exact rok_not r1
  | _ => exact no_el h
theorem ok_bool {X : Fx} {x y : Expr} {op : BoolOp} {p : Pos} {a1 a2 : Ex} (r1 : ROk k X x (ev cf a1)) (r2 : ROk k X y (ev cf a2)) : ROk k X (.BoolOp op [x, y] p) (ev cf (boolEx op a1 a2)) := by
  cases op with
  | And => exact rok_and r1 r2
  | Or => exact rok_or r1 r2
theorem step_cmp {n : Nat} (ih : TrOk k g cf B n) {c : Cx} {X : Fx} {l : Expr} {ops : List CmpOp} {rs : List Expr} {p : Pos} {a : Ex} (C : Ctx B X c) (h : trE g c (n + 1) (.Compare l ops rs p) = some a) : ROk k X (.Compare l ops rs p) (ev cf a) := by
  have h : (match one ops with | some op => one rs >>= fun r => trC g c n l op r | none => trCh (trE g c n) l ops rs) = some a := h
  revert h
  cases e0 : one ops with
  | some op =>
    refine bind_er fun r e1 h => ?_
    rw [one_some e0, one_some e1]
    exact ih.c c X _ _ _ _ C h _
  | none =>
    refine bind_r7 fun o w1 r w2 a1 e1 a2 e2 a3 e3 p e4 q e5 h => ?_
    cases h
    rw [two_some w1, two_some w2]
    exact rok_chain (ih.e c X _ _ C e1) (ih.e c X _ _ C e2) (ih.e c X _ _ C e3) e4 e5
theorem tr_comp {n : Nat} {c : Cx} {elt : Expr} {gens : List Comprehension} {scope : Scope} {pos : Pos} {a : Ex} {P : Prop} (h : trE g c (n + 1) (.ListComp elt gens scope pos) = some a)
    (k : ∀ (gen : Comprehension) (ts : List Str) (it : It) (fs : Exs) (y : Ex), gens = [gen] → gen.is_async = 0 → tgtsOf gen.target = some ts → trI g c n gen.iter = some it → compOk c ts scope = true → tgtOk gen.target it = true → trL g { names := scope.names, outer := c.outer, inner := ts } n gen.ifs = some fs →
      trE g { names := scope.names, outer := c.outer, inner := ts } n elt = some y → a = .comp (capsOf c.outer scope) ts.length it fs y → P) : P := by
  revert h; refine bind_er fun gen e0 h => ?_
  revert h; refine bind_r2 fun ts e1 it e2 h => ?_
  revert h; refine ite_er fun q h => ?_
  revert h; refine bind_r2 fun fs e3 y e4 h => ?_
  have w := Bool.and_eq_true_iff.mp q.2
  exact k gen ts it fs y (one_some e0) q.1 e1 e2 w.1 w.2 e3 e4 (Option.some.inj h).symm
theorem compC {c : Cx} {X : Fx} {scope : Scope} {cl : List (Str × Addr)} {caps : List Nat} {ts : List Str} {D : Addr} {c2 : Cx} (C : Ctx B X c) (h : EnvOk (compX X scope cl caps ts D) ∧ CxOk c2 (compX X scope cl caps ts D)) : Ctx B (compX X scope cl caps ts D) c2 :=
  ⟨⟨C.base.hb, C.base.dk, C.base.prog, C.base.w⟩, h.1, h.2⟩
theorem step_comp {n : Nat} (ih : TrOk k g cf B n) {c : Cx} {X : Fx} {elt : Expr} {gens : List Comprehension} {scope : Scope} {p : Pos} {a : Ex} (C : Ctx B X c) (h : trE g c (n + 1) (.ListComp elt gens scope p) = some a) : ROk k X (.ListComp elt gens scope p) (ev cf a) := by
  refine tr_comp h fun gen ts it fs y hg h0 e1 e2 e3 e4 e5 e6 ha => ?_
  clear h
  have h2 := tgt_two e4
  obtain ⟨cl, O, hin⟩ := compCtx C.env C.cx e3 (tgts_ne e1 h2)
  rw [hg, ha]
  obtain ⟨tgt, iter, ifs, az⟩ := gen
  cases (h0 : az = 0)
  exact rok_comp O (fun D => (hin D).1.fx) e1 h2 (ih.i c X _ _ C e2 _ e4) (fun D => (ih.l _ _ _ _ (compC C (hin D)) e5).2.2.2) (fun D => ih.e _ _ _ _ (compC C (hin D)) e6) (notSet_folded (tri_notSet e2))
theorem step_e {n : Nat} (ih : TrOk k g cf B n) (hG : Gnd g B.hb mg mb) : ∀ (c : Cx) (X : Fx) (x : Expr) (a : Ex), Ctx B X c → trE g c (n + 1) x = some a → ROk k X x (ev cf a) := by
  intro c X x a C
  cases x with
  | Constant v kd p => exact step_con
  | Name x p => exact step_nm hG C
  | BinOp l op r p => exact bind_r2 fun a1 e1 a2 e2 h => ok_bin (ih.e c X _ _ C e1) (ih.e c X _ _ C e2) h
  | UnaryOp op x p => exact bind_er fun a1 e1 h => ok_un (ih.e c X _ _ C e1) h
  | BoolOp op vs p =>
    refine bind_r3 fun q e0 a1 e1 a2 e2 h => ?_
    rw [two_some e0]
    exact on_el h fun h => h ▸ ok_bool (ih.e c X _ _ C e1) (ih.e c X _ _ C e2)
  | Compare l ops rs p => exact step_cmp ih C
  | IfExp t x y p => exact bind_r3 fun a1 e1 a2 e2 a3 e3 h => on_el h fun h => h ▸ rok_ite (ih.e c X _ _ C e1) (ih.e c X _ _ C e2) (ih.e c X _ _ C e3)
  | Subscript v i p => exact step_sub ih C
  | Call f args kws p => exact step_call ih C
  | List es p => exact bind_er fun l e1 h => on_el h fun h => h ▸ rok_list (ih.l c X _ _ C e1).1
  | Tuple es q p => exact bind_er fun l e1 h => on_el h fun h => h ▸ rok_tup (ih.l c X _ _ C e1).1
  | Dict ks vs p =>
    refine ite_er fun q h => on_el h fun h => h ▸ ?_
    obtain ⟨q1, q2⟩ := Bool.and_eq_true_iff.mp q
    rw [nil_of q1, nil_of q2]
    exact rok_dict C.env
  | ListComp elt gens scope p => exact step_comp ih C
  | _ => exact no_el
theorem step_c {n : Nat} (ih : TrOk k g cf B n) (hG : Gnd g B.hb mg mb) : ∀ (c : Cx) (X : Fx) (l : Expr) (o : CmpOp) (r : Expr) (a : Ex), Ctx B X c → trC g c (n + 1) l o r = some a → ∀ pos, ROk k X (.Compare l [o] [r] pos) (ev cf a) := by
  intro c X l o r a C h pos
  have hX := C.env.fx
  have G := C.base.gnd hG
  revert h; refine bind_er (x := trE g c n l) fun a1 e1 h => ?_
  have r1 := ih.e c X _ _ C e1
  have fin : ∀ {q : Cp}, opOf o = some q → (trE g c n r >>= fun b => some (Ex.cmp q a1 b)) = some a → ROk k X (.Compare l [o] [r] pos) (ev cf a) := fun e3 h => by
    revert h; refine bind_er fun b e2 h => ?_
    cases h
    exact rok_cmp (tree_bin r1 (ih.e c X _ _ C e2) (op_cmp e3)) (opOf_mark e3 _)
  have nil : ∀ {ng : Bool} {q : Cp}, o = (if ng then .NotEq else .Eq) → opOf o = some q → (match varOf c l, isEmptyList r with | some x, true => some (Ex.isNil ng x) | _, _ => trE g c n r >>= fun b => some (Ex.cmp q a1 b)) = some a → ROk k X (.Compare l [o] [r] pos) (ev cf a) := fun ho e3 h => by
    revert h
    cases ev : varOf c l with
    | none => exact fin e3
    | some i =>
      cases ee : isEmptyList r with
      | false => exact fin e3
      | true =>
        intro h
        cases h
        obtain ⟨y, p, rfl, e3⟩ := varOf_some ev
        obtain ⟨p2, rfl⟩ := emptyList_some ee
        exact rok_isNil hX (C.cx.dR e3) (C.cx.res _ _ e3) ho
  clear e1
  cases o with
  | Is => exact ite_er (fun q h => by cases h; exact rok_isNone (ng := false) r1 rfl q) h
  | IsNot => exact ite_er (fun q h => by cases h; exact rok_isNone (ng := true) r1 rfl q) h
  | In =>
    revert h; refine bind_er fun b e2 h => ?_
    cases h
    exact rok_inn (ng := false) r1 (ih.e c X _ _ C e2) rfl (notSet_marks (tr_notSet e2) (.inl rfl))
  | NotIn =>
    revert h; refine bind_er fun b e2 h => ?_
    cases h
    exact rok_inn (ng := true) r1 (ih.e c X _ _ C e2) rfl (notSet_marks (tr_notSet e2) (.inr rfl))
  | Eq => exact nil (ng := false) rfl rfl h
  | NotEq => exact nil (ng := true) rfl rfl h
  | Lt => exact fin (q := .lt) rfl h
  | LtE => exact fin (q := .le) rfl h
  | Gt => exact fin (q := .gt) rfl h
  | GtE => exact fin (q := .ge) rfl h
set_option tactic.hygienic true in
theorem fnOf_some {c : Cx} {x : Str} {i : Nat} (h : fnOf g c x = some i) : c.isG x = true ∧ g.fns[i]? = some x := by
  unfold fnOf at h
  split at h
  · rename_i q
    cases h
    simp only [Bool.and_eq_true] at q
    exact ⟨q.1, idxOf_at (by simpa using q.2)⟩
  · cases h
noncomputable def Bi.nm : Bi → Str
  | .len => ("len" : Str)
  | .abs => ("abs" : Str)
  | .min => ("min" : Str)
  | .list => ("list" : Str)
  | .sorted => ("sorted" : Str)
noncomputable def Ib.nm : Ib → Str
  | .range => ("range" : Str)
  | .enum => ("enumerate" : Str)
  | .zip => ("zip" : Str)
theorem bis_ok : ∀ p ∈ bis, p.1 = p.2.nm := by
  intro p h
  repeat (cases h with | head => rfl | tail _ h => ?_)
  exact nomatch h
theorem ibs_ok : ∀ p ∈ ibs, p.1 = p.2.nm := by
  intro p h
  repeat (cases h with | head => rfl | tail _ h => ?_)
  exact nomatch h
theorem biOf_some {c : Cx} {x : Str} {b : Bi} (h : biOf c x = some b) : c.isG x = true ∧ x = b.nm :=
  ite_er (x := bis.lookup x) (fun hg h => ⟨hg, bis_ok (x, b) (mem_of_lookup h)⟩) h
theorem ibOf_some {c : Cx} {e : Expr} {b : Ib} (h : ibOf c e = some b) : ∃ x p, e = .Name x p ∧ c.isG x = true ∧ x = b.nm := by
  obtain ⟨x, h1, h⟩ := bind_some (f := fun x => if c.isG x = true then ibs.lookup x else none) h
  obtain ⟨p, h2⟩ := nameOf_some h1
  exact ite_er (fun hg h => ⟨x, p, h2, hg, ibs_ok (x, b) (mem_of_lookup h)⟩) h
theorem callI_some {c : Cx} {e : Expr} {r : Ib × List Expr} (h : callI c e = some r) : ∃ y p pos, e = .Call (.Name y p) r.2 [] pos ∧ c.isG y = true ∧ y = r.1.nm := by
  revert h; refine bind_er fun q w1 h => ?_
  revert h; refine bind_er fun b hb h => ?_
  revert h; refine ite_er fun q2 h => ?_
  obtain ⟨y, p, hf1, hg, hf⟩ := ibOf_some hb
  exact on_el h fun h => h ▸ ⟨y, p, q.2.2.2, (callOf_some w1).trans (call_cg hf1 rfl (nil_of q2)), hg, hf⟩
theorem ok_call (hG : Gnd g B.hb mg mb) (hcf : ∀ X, Base B X → CfOk k X g mg cf) {n : Nat} (ih : TrOk k g cf B n) {c : Cx} {X : Fx} {f : Str} {args : List Expr} {kws : List Keyword} {p pos : Pos} {a : Ex} {i : Nat} (C : Ctx B X c) (e0 : fnOf g c f = some i)
    (h : (if kws.isEmpty && !args.isEmpty then trL g c n args >>= fun l => some (Ex.call i l) else none) = some a) : ROk k X (.Call (.Name f p) args kws pos) (ev cf a) := by
  obtain ⟨hg, hi⟩ := fnOf_some e0
  revert h; refine ite_er fun q h => ?_
  obtain ⟨q1, q2⟩ := Bool.and_eq_true_iff.mp q
  revert h; refine bind_er fun l e1 h => ?_
  cases h
  rw [nil_of q1]
  cases args with
  | nil => exact nomatch q2
  | cons x xs => exact rok_call (C.base.gnd hG) C.env C.cx (hcf X C.base) hg hi (trl_notStar e1) (ih.l c X _ _ C e1).2.1
theorem ok_listR (hG : Gnd g B.hb mg mb) {n : Nat} (ih : TrOk k g cf B n) {c : Cx} {X : Fx} {f : Str} {args : List Expr} {kws : List Keyword} {p pos : Pos} {a : Ex} (C : Ctx B X c) (hg : c.isG f = true) (hf : f = Bi.list.nm) (h : trBi (trE g c n) g c args kws .list = some a) :
    ROk k X (.Call (.Name f p) args kws pos) (ev cf a) := by
  revert h; refine bind_r3 fun y w1 r w2 x w3 h => ?_
  revert h; refine bind_er fun a1 e1 h => ?_
  revert h; refine ite_er fun q h => ?_
  obtain ⟨q1, q2⟩ := Bool.and_eq_true_iff.mp q
  obtain ⟨y2, p2, pos2, e, hg2, hf2⟩ := callI_some w2
  have hf2 : y2 = Ib.range.nm := by
    rw [hf2]
    revert q2
    cases r.1 <;> first | exact fun _ => rfl | exact fun h => nomatch h
  rw [nil_of q1, one_some w1, e, one_some w3]
  exact on_el h fun h => h ▸ rok_listRange (C.base.gnd hG) C.env C.cx hg hf hg2 hf2 (tr_notStar e1) (ih.e c X _ _ C e1)
theorem ok_bi (hG : Gnd g B.hb mg mb) (hcf : ∀ X, Base B X → CfOk k X g mg cf) {n : Nat} (ih : TrOk k g cf B n) {c : Cx} {X : Fx} {f : Str} {args : List Expr} {kws : List Keyword} {p pos : Pos} {a : Ex} {b : Bi} (C : Ctx B X c) (hg : c.isG f = true) (hf : f = b.nm) (h : trBi (trE g c n) g c args kws b = some a) :
    ROk k X (.Call (.Name f p) args kws pos) (ev cf a) := by
  have G := C.base.gnd hG
  revert h
  cases b with
  | len =>
    refine ite_er fun q h => ?_
    rw [nil_of q]
    revert h; refine bind_r2 fun x w a1 e1 h => ?_
    rw [one_some w]
    exact on_el h fun h => h ▸ rok_len G C.env C.cx hg hf (tr_notStar e1) (ih.e c X _ _ C e1)
  | abs =>
    refine ite_er fun q h => ?_
    rw [nil_of q]
    revert h; refine bind_r2 fun x w a1 e1 h => ?_
    rw [one_some w]
    exact on_el h fun h => h ▸ rok_abs G C.env C.cx hg hf (tr_notStar e1) (ih.e c X _ _ C e1)
  | min =>
    refine ite_er fun q h => ?_
    rw [nil_of q]
    revert h; refine bind_r3 fun x w a1 e1 a2 e2 h => ?_
    rw [two_some w]
    exact on_el h fun h => h ▸ rok_min G C.env C.cx hg hf (tr_notStar e1) (tr_notStar e2) (ih.e c X _ _ C e1) (ih.e c X _ _ C e2)
  | list => exact ok_listR hG ih C hg hf
  | sorted =>
    refine bind_er fun x w h => ?_
    rw [one_some w]
    clear w
    revert h; refine bind_er2 fun i e hk h => ?_
    revert h; refine bind_r2 fun a1 e1 a2 e2 h => ?_
    obtain ⟨kn, kf, kp, kpos, rn, rpos, hw, h1, h2, h3⟩ := sortKw_some hk
    clear hk
    obtain ⟨hg2, hi⟩ := fnOf_some h3
    rw [hw]
    exact on_el h fun h => h ▸ rok_sorted G C.env C.cx (hcf X C.base) hg hf hg2 hi h1 h2 (tr_notStar e1) (ih.e c X _ _ C e1) (ih.e c X _ _ C e2)
theorem step_f {n : Nat} (ih : TrOk k g cf B n) (hG : Gnd g B.hb mg mb) (hcf : ∀ X, Base B X → CfOk k X g mg cf) : ∀ (c : Cx) (X : Fx) (f : Str) (args : List Expr) (kws : List Keyword) (a : Ex), Ctx B X c → trCall g c (n + 1) f args kws = some a → ∀ p pos, ROk k X (.Call (.Name f p) args kws pos) (ev cf a) := by
  intro c X f args kws a C h p pos
  have h : (match fnOf g c f with | some i => (if kws.isEmpty && !args.isEmpty then trL g c n args >>= fun l => some (Ex.call i l) else none) | none => biOf c f >>= fun b => trBi (trE g c n) g c args kws b) = some a := h
  revert h
  cases e0 : fnOf g c f with
  | some i => exact ok_call hG hcf ih C e0
  | none =>
    refine bind_er fun b hb h => ?_
    obtain ⟨hg, hf⟩ := biOf_some hb
    exact ok_bi hG hcf ih C hg hf h
theorem step_l {n : Nat} (ih : TrOk k g cf B n) : ∀ (c : Cx) (X : Fx) (es : List Expr) (a : Exs), Ctx B X c → trL g c (n + 1) es = some a → LOk k X es (evL cf a) ∧ ALOk k X es (evA cf a) ∧ SLOk k X es (evS cf a) ∧ TsOk k X es (evC cf a) := by
  intro c X es a C h
  cases es with
  | nil => cases h; exact ⟨lok_nil, alok_nil, slok_nil, tsok_nil⟩
  | cons e es =>
    rw [trLq3] at h
    revert h; refine bind_r2 fun a1 e1 a2 e2 h => ?_
    cases h
    have r1 := ih.e c X _ _ C e1
    obtain ⟨w1, w2, w3, w4⟩ := ih.l c X _ _ C e2
    exact ⟨lok_cons (tr_notStar e1) r1 w1, alok_cons (tr_notStar e1) r1 w2, slok_cons (tr_notStar e1) r1 w3, tsok_cons r1 w4⟩
theorem step_o {n : Nat} (ih : TrOk k g cf B n) : ∀ (c : Cx) (X : Fx) (lo : Option Expr) (a : Ox), Ctx B X c → trO g c (n + 1) lo = some a → OOk k X lo (evO cf a) := by
  intro c X lo a C h
  cases lo with
  | none => cases h; exact ook_none
  | some e =>
    rw [trOq3] at h
    revert h; refine bind_er fun a1 e1 h => ?_
    cases h
    exact ook_some (ih.e c X _ _ C e1)
theorem ok_ib (hG : Gnd g B.hb mg mb) {n : Nat} (ih : TrOk k g cf B n) {c : Cx} {X : Fx} {y : Str} {args : List Expr} {p pos : Pos} {b : Ib} {a : It} {tgt : Expr} (C : Ctx B X c) (hg : c.isG y = true) (hf : y = b.nm) (h : trIb (trE g c n) args b = some a) (ht : tgtOk tgt a = true) :
    IOk k X (.Call (.Name y p) args [] pos) tgt (evI cf a) := by
  have G := C.base.gnd hG
  revert h
  cases b with
  | range =>
    refine bind_r2 fun x w2 a1 e1 h => ?_
    rw [one_some w2]
    cases h
    obtain ⟨xn, pn, e⟩ := isNm_some ht
    rw [e]
    exact iok_range G C.env C.cx hg hf (tr_notStar e1) (ih.e c X _ _ C e1)
  | enum =>
    refine bind_r2 fun x w2 a1 e1 h => ?_
    rw [one_some w2]
    cases h
    obtain ⟨t1, t2, ts, q, pn, e⟩ := isTup2_some ht
    rw [e]
    exact iok_enum G C.env C.cx hg hf (tr_notStar e1) (ih.e c X _ _ C e1)
  | zip =>
    refine bind_r3 fun x w2 a1 e1 a2 e2 h => ?_
    rw [two_some w2]
    cases h
    obtain ⟨t1, t2, ts, q, pn, e⟩ := isTup2_some ht
    rw [e]
    exact iok_zip G C.env C.cx hg hf (tr_notStar e1) (tr_notStar e2) (ih.e c X _ _ C e1) (ih.e c X _ _ C e2)
theorem step_i {n : Nat} (ih : TrOk k g cf B n) (hG : Gnd g B.hb mg mb) : ∀ (c : Cx) (X : Fx) (it : Expr) (a : It), Ctx B X c → trI g c (n + 1) it = some a → ∀ tgt, tgtOk tgt a = true → IOk k X it tgt (evI cf a) := by
  intro c X it a C h tgt ht
  have h : (match callI c it with | some r => trIb (trE g c n) r.2 r.1 | none => trE g c n it >>= fun a => some (It.val a)) = some a := h
  revert h
  cases e0 : callI c it with
  | none =>
    refine bind_er fun a1 e1 h => ?_
    cases h
    exact iok_val (tgt_two ht) (ih.e c X _ _ C e1)
  | some r =>
    intro h
    obtain ⟨y, p, pos, e, hg, hf⟩ := callI_some e0
    rw [e]
    exact ok_ib hG ih C hg hf h ht
theorem tr_ok (hG : Gnd g B.hb mg mb) (hcf : ∀ X, Base B X → CfOk k X g mg cf) : ∀ n, TrOk k g cf B n
  | 0 => by
    refine ⟨?_, ?_, ?_, ?_, ?_, ?_⟩
    · intro c X x a C h; cases h
    · intro c X l o r a C h; cases h
    · intro c X f args kws a C h; cases h
    · intro c X es a C h; cases h
    · intro c X lo a C h; cases h
    · intro c X it a C h; cases h
  | n + 1 => by
    have ih := tr_ok hG hcf n
    exact ⟨step_e ih hG, step_c ih hG, step_f ih hG hcf, step_l ih, step_o ih, step_i ih hG⟩
end
end Mini
end
section
set_option autoImplicit false
set_option linter.unusedVariables false
set_option linter.unusedSimpArgs false
namespace Mini
set_option tactic.hygienic false
open PySem PySem.Calls PyProof.Rows
section
variable {k : Nat} {g : Glb} {mg mb : Str → Option Value} {cf : CF} {B : Fx}
theorem unfolded_el {P : Expr → Prop} {e : Expr} (k : ∀ x, P ((fm 8).to x)) (k1 : ∀ x, P ((fm 1).to x)) (k2 : ∀ x, P ((fm 11).to x)) (k3 : ∀ x, P ((fm 12).to x)) (h : unfolded e = true) : P e := by
  have one : ∀ {n : Nat}, (get e n).isSome = true → (∀ x, P ((fm n).to x)) → P e := fun q k => by
    obtain ⟨x, q⟩ := Option.isSome_iff_exists.mp q
    exact get_some q ▸ k x
  rcases Bool.or_eq_true_iff.mp h with h | h <;> rcases Bool.or_eq_true_iff.mp h with h | h
  · exact one h k
  · exact one h k1
  · exact one h k2
  · exact one h k3
theorem unfolded_no {e : Expr} : unfolded e = true → foldedForSure 8 e = false ∧ constantsAlone 8 e = false :=
  unfolded_el (P := fun e => foldedForSure 8 e = false ∧ constantsAlone 8 e = false) (fun _ => ⟨rfl, rfl⟩) (fun _ => ⟨rfl, rfl⟩) (fun _ => ⟨rfl, rfl⟩) (fun _ => ⟨rfl, rfl⟩)
theorem eraseDups_nodup : ∀ {l : List Str}, l.Nodup → l.eraseDups = l
  | [], _ => rfl
  | x :: l, h => by
    rw [List.eraseDups_cons]
    have h' := List.nodup_cons.mp h
    have : l.filter (fun b => !b == x) = l := List.filter_eq_self.mpr fun a q => by
      have : a ≠ x := fun z => h'.1 (z ▸ q)
      simp [this]
    rw [this, eraseDups_nodup h'.2]
theorem swap_names {env : Env} {line : Nat} {F : Expr → Option Str} (hF : ∀ x p, env.kindOf x = some .local → p.line = line → F (.Name x p) = some x) : ∀ {ts : List Expr} {ns : List Str}, namesOf ts = some ns → (∀ n ∈ ns, env.kindOf n = some .local) → ts.all (fun u => lineOf u == some line) = true →
    ts.filterMap F = ns ∧ ts.length = ns.length
  | [], ns, e, _, _ => by cases e; exact ⟨rfl, rfl⟩
  | t :: ts, ns, e, hk, hl => by
    revert hk hl
    apply names_cons e
    intro x p l e2 hk hl
    obtain ⟨hl1, hl2⟩ := Bool.and_eq_true_iff.mp (List.all_cons.symm.trans hl)
    have h := swap_names hF e2 (fun n q => hk n (List.mem_cons_of_mem _ q)) hl2
    have hp : p.line = line := Option.some.inj (show some p.line = some line from eq_of_beq hl1)
    refine ⟨?_, congrArg (· + 1) h.2⟩
    rw [List.filterMap_cons, hF x p (hk x (List.mem_cons_self ..)) hp, ← h.1]
theorem iteS {α : Type} {c : Prop} [Decidable c] {a b r : α} (h : ¬c) (e : b = r) : ite c a b = r := (if_neg h).trans e
theorem all_no {α : Type} {l : List α} {p : α → Bool} {e : α} (h : e ∈ l) (k : p e = false) : l.all p = false := by
  rw [← Bool.not_eq_true, List.all_eq_true]; intro q; rw [q e h] at k; cases k
theorem unfolded_any {es : List Expr} (h : es.any unfolded = true) : es.all (foldedForSure 8) = false ∧ es.all (constantsAlone 8) = false :=
  let ⟨_, h1, h2⟩ := List.any_eq_true.mp h
  ⟨all_no h1 (unfolded_no h2).1, all_no h1 (unfolded_no h2).2⟩
theorem any_no {es : List Expr} {p : Expr → Bool} (h : ∀ e ∈ es, notStar e = true) (k : ∀ e, notStar e = true → p e = false) : ¬ es.any p = true := by
  rw [List.any_eq_true]
  rintro ⟨e, q, w⟩
  exact Bool.noConfusion (w.symm.trans (k e (h e q)))
theorem swap_c1 {a b : Nat} {env : Env} (h : (a == 2 || a == 3) = true) (hl : b = a) (hk : env.scope.kind = .function) : (!(a == 2 || a == 3) || b != a || env.blockKind != .function) = false := by
  have hbk : (env.blockKind != .function) = false := by unfold Env.blockKind; rw [hk]; rfl
  rw [h, hl, hbk, bne_self_eq_false]; rfl
theorem swap_c2 {ns : List Str} {a : Nat} (h : a = ns.length) (hd : ns.Nodup) : (ns.length != a || ns.eraseDups.length != ns.length) = false := by
  rw [eraseDups_nodup hd, h, bne_self_eq_false]; rfl
theorem swap_eq {env : Env} {ts es : List Expr} {q1 q2 : Nat} {tp ep : Pos} {ns : List Str} (hk : env.scope.kind = .function) (hn : namesOf ts = some ns) (hl : ∀ n ∈ ns, env.kindOf n = some .local) (hd : ns.Nodup) (ho : swapOk ts es = true)
    (hlen : es.length = ts.length) (hs : ∀ e ∈ es, notStar e = true) : swappedStores [.Tuple ts q1 tp] (.Tuple es q2 ep) env = pure (some ns) := by
  obtain ⟨ho, h3⟩ := Bool.and_eq_true_iff.mp ho
  obtain ⟨h1, h2⟩ := Bool.and_eq_true_iff.mp ho
  obtain ⟨hf, hc⟩ := unfolded_any h3
  cases ts with
  | nil => exact nomatch h1
  | cons t ts =>
    have hline : ∃ line, lineOf t = some line ∧ t.pos.line = line := by
      apply names_cons hn
      intro x p l _
      exact ⟨p.line, rfl, rfl⟩
    obtain ⟨line, hl1, hl2⟩ := hline
    have h2 : (t :: ts).all (fun u => lineOf u == lineOf t) = true := h2
    rw [hl1] at h2
    subst hl2
    have h1 : ((t :: ts).length == 2 || (t :: ts).length == 3) = true := h1
    refine iteS (fun q => Bool.noConfusion (q.symm.trans (swap_c1 h1 hlen hk))) ?_
    refine iteS (any_no hs fun e => by cases e <;> first | exact fun _ => rfl | exact fun h => nomatch h) ?_
    clear h1 hlen hs h3
    extract_lets line names
    obtain ⟨nm, w2⟩ : names = ns ∧ _ := swap_names (fun x p q1 q2 => if_pos (by rw [q1, q2]; exact and_t BEq.rfl BEq.rfl)) hn hl h2
    clear hn h2 hl hl1
    clear_value names line
    subst nm
    refine iteS (fun q => Bool.noConfusion (q.symm.trans (swap_c2 w2 hd))) ?_
    refine iteS (fun q => Bool.noConfusion (q.symm.trans hf)) ?_
    exact iteS (fun q => Bool.noConfusion (q.symm.trans hc)) rfl
theorem sole_tup {ts : List Expr} {q : Nat} {tp : Pos} {v : Expr} {l : Nat} {env : Env} : swapsWithSole [.Tuple ts q tp] v l env = pure false := by
  cases v <;> rfl
theorem bne_line {a b : Nat} (h : ¬ (a != b) = true) : (a == b) = true := by simpa using h
set_option tactic.hygienic true in
theorem meOf_some {m : Str} {x : Me} (h : meOf m = some x) : m = (match x with | .append => "append" | .extend => "extend" | .remove => "remove" : Str) := by
  unfold meOf at h
  repeat' (split at h)
  all_goals first
    | (rename_i q; cases h; exact eq_of_beq q)
    | cases h
theorem comp_of {n : Nat} {c : Cx} {v : Expr} {a : Ex} (h : notComp v = false) (e : trE g c n v = some a) : ∃ x, v = (fm 13).to x := by
  cases e1 : get v 13 with
  | some x => exact ⟨x, get_some e1⟩
  | none =>
    cases e2 : get v 14 with
    | some x => rw [get_some e2] at e; cases n <;> exact nomatch e
    | none =>
      cases e3 : get v 15 with
      | some x => rw [get_some e3] at e; cases n <;> exact nomatch e
      | none => unfold notComp at h; rw [e1, e2, e3] at h; exact nomatch h
theorem sok_asgL (T : ∀ n, TrOk k g cf B n) {n : Nat} {c : Cx} {X : Fx} (C : Ctx B X c) {x : Str} {i : Nat} {p pos cpos : Pos} {elt : Expr} {gens : List Comprehension} {scope : Scope} {a : Ex} (hi : c.res x = some i) (hl : c.isL x = true) (h : trE g c n (.ListComp elt gens scope cpos) = some a) :
    SOk k X (.Assign [.Name x p] (.ListComp elt gens scope cpos) pos) (asgS i (ev cf a)) := by
  cases n with
  | zero => exact no_el h
  | succ m =>
  refine tr_comp h fun gen ts it fs y hg h0 e1 e2 e3 e4 e5 e6 ha => ?_
  clear h
  have h2 := tgt_two e4
  obtain ⟨cl, O, hin⟩ := compCtx C.env C.cx e3 (tgts_ne e1 h2)
  rw [hg, ha]
  obtain ⟨tgt, iter, ifs, az⟩ := gen
  cases (h0 : az = 0)
  exact sok_asgComp O (fun D => (hin D).1.fx) e1 h2 ((T m).i c X _ _ C e2 _ e4) (fun D => ((T m).l _ _ _ _ (compC C (hin D)) e5).2.2.2) (fun D => (T m).e _ _ _ _ (compC C (hin D)) e6) (notSet_folded (tri_notSet e2)) C.env.fx (C.cx.res _ _ hi) (C.cx.loc _ hl)
theorem sok_asg_any (hG : Gnd g B.hb mg mb) (T : ∀ n, TrOk k g cf B n) {n : Nat} {c : Cx} {X : Fx} (C : Ctx B X c) {x : Str} {i : Nat} {p pos : Pos} {v : Expr} {a : Ex} (hi : c.res x = some i) (hl : c.isL x = true) (h : trE g c n v = some a) :
    SOk k X (.Assign [.Name x p] v pos) (asgS i (ev cf a)) := by
  cases hv : notComp v with
  | true => exact sok_asg C.env.fx (C.cx.res _ _ hi) (C.cx.loc _ hl) hv ((T n).e c X _ _ C h)
  | false =>
    obtain ⟨y, e⟩ := comp_of hv h
    rw [e] at h ⊢
    exact sok_asgL T C hi hl h
set_option tactic.hygienic true in
theorem tgts_of {c : Cx} {X : Fx} (C : CxOk c X) : ∀ {ns : List Str} {is : List Nat}, allSome (ns.map c.res) = some is → ns.all c.isL = true → Tgts X is ns
  | [], is, e, _ => by cases e; exact .nil
  | n :: ns, is, e, h => by
    simp only [List.all_cons, Bool.and_eq_true] at h
    simp only [List.map_cons] at e
    cases q : c.res n with
    | none => rw [q] at e; cases e
    | some i =>
      rw [q] at e
      simp only [allSomeq1, allSomeq2, allSomeq3] at e
      split at e
      · rename_i l e2
        cases e
        exact .cons (C.res _ _ q) (C.loc _ h.1) (tgts_of C e2 h.2)
      · cases e
theorem trL_len {n : Nat} {c : Cx} : ∀ {es : List Expr} {a : Exs} {n : Nat}, trL g c n es = some a → (∀ e ∈ es, notStar e = true) ∧ ∀ st ss st', evS cf a st = some (ss, st') → ss.length = es.length
  | [], a, n, h => by
    cases n with
    | zero => cases h
    | succ n => cases h; exact ⟨fun e q => (nomatch q), fun st ss st' e => by cases e; rfl⟩
  | e :: es, a, n, h => by
    cases n with
    | zero => cases h
    | succ n =>
      rw [trLq3] at h
      revert h; refine bind_r2 fun a1 e1 a2 e2 h => ?_
      cases h
      obtain ⟨w1, w2⟩ := trL_len (n := n) (es := es) e2
      refine ⟨fun x q => ?_, fun st ss st' q => ?_⟩
      · rcases List.mem_cons.mp q with rfl | q
        · exact tr_notStar e1
        · exact w1 x q
      · revert q; refine bind_er2 fun s1 st1 q1 q => ?_
        revert q; refine bind_er2 fun s2 st2 q2 q => ?_
        cases q
        simp [w2 _ _ _ q2]
structure TrSOk (k : Nat) (g : Glb) (cf : CF) (B : Fx) (n : Nat) : Prop where
  s : ∀ (c : Cx) (X : Fx) (x : Stmt) (a : Sm), Ctx B X c → trS g c n x = some a → SOk k X x (ex cf a)
  ss : ∀ (c : Cx) (X : Fx) (x : List Stmt) (a : Sms), Ctx B X c → trSs g c n x = some a → SsOk k X x (exs cf a)
theorem methOf_some {e : Expr} {p : Expr × Str × Expr × Bool} (h : methOf e = some p) : ∃ ap pos, e = .Call (.Attribute p.1 p.2.1 ap) [p.2.2.1] [] pos ∧ p.2.2.2 = (ap.endLine == pos.line) := by
  revert h; refine bind_er fun pc e1 h => ?_
  revert h; refine bind_er fun pa e2 h => ?_
  revert h; refine bind_er fun x e3 h => ?_
  revert h; refine ite_er fun q h => ?_
  refine on_el h fun h => h ▸ ⟨pa.2.2, pc.2.2.2, ?_, rfl⟩
  exact (callOf_some e1).trans (call_cg (attrOf_some e2) (one_some e3) (nil_of q))
theorem ok_name (hG : Gnd g B.hb mg mb) (T : ∀ n, TrOk k g cf B n) {n : Nat} {c : Cx} {X : Fx} (C : Ctx B X c) {x : Str} {p pos : Pos} {v : Expr} {a : Sm} (h : trName g c n x v = some a) : SOk k X (.Assign [.Name x p] v pos) (ex cf a) := by
  revert h; refine bind_r2 fun i e1 a1 e2 h => ?_
  by_cases q : c.isL x = true
  · refine on_el ((if_pos q).symm.trans h) fun h => h ▸ ?_
    exact sok_asg_any hG T C e1 q e2
  · have h := (if_neg q).symm.trans h
    revert h; refine ite_er fun q2 h => ?_
    cases h
    exact sok_asgC C.env.fx (C.cx.res _ _ e1) (C.cx.cel _ q2) ((T n).e c X _ _ C e2)
theorem swap_len {ts es : List Expr} {m : Nat} (h : swapOk ts es = true) (e : ts.length = m) : m ≤ 3 := by
  subst e
  have h := (Bool.and_eq_true_iff.mp (Bool.and_eq_true_iff.mp h).1).1
  exact (Bool.or_eq_true_iff.mp h).elim (fun q => by rw [eq_of_beq q]; decide) (fun q => by rw [eq_of_beq q]; decide)
theorem ok_tupT (T : ∀ n, TrOk k g cf B n) {n : Nat} {c : Cx} {X : Fx} (C : Ctx B X c) {us es : List Expr} {xs : List Str} {is : List Nat} {kd kd2 : Nat} {p p2 pos : Pos} {a : Sm} (e1 : namesOf us = some xs) (e2 : allSome (xs.map c.res) = some is) (h : trTupT g c n us es xs is = some a) :
    SOk k X (.Assign [.Tuple us kd p] (.Tuple es kd2 p2) pos) (ex cf a) := by
  revert h; refine bind_er fun l e3 h => ?_
  revert h; refine ite_er fun q h => ?_
  cases h
  obtain ⟨q123, q4⟩ := Bool.and_eq_true_iff.mp q
  obtain ⟨q12, q3⟩ := Bool.and_eq_true_iff.mp q123
  obtain ⟨q1, q2⟩ := Bool.and_eq_true_iff.mp q12
  have q1 : es.length = us.length := of_decide_eq_true q1
  have nl := namesOf_len e1
  obtain ⟨w1, w2⟩ := trL_len (cf := cf) (n := n) e3
  exact sok_asgT C.env.fx (tgts_of C.cx e2 q3) ((T n).l c X _ _ C e3).2.2.1 (q1.trans nl) rfl
    (swap_eq C.env.fx.kind e1 (fun n q => C.cx.loc n (List.all_eq_true.mp q3 n q)) (distinct_nodup q4) q2 q1 w1) (fun st ss st' e => (w2 st ss st' e).trans (q1.trans nl)) (swap_len q2 nl)
theorem swapped_none {us : List Expr} {kd : Nat} {p : Pos} {v : Expr} {env : Env} : tupOf v = none → swappedStores [.Tuple us kd p] v env = pure none := by
  cases v <;> first | exact fun _ => rfl | exact fun h => nomatch h
theorem ok_tup (T : ∀ n, TrOk k g cf B n) {n : Nat} {c : Cx} {X : Fx} (C : Ctx B X c) {us : List Expr} {kd : Nat} {p pos : Pos} {v : Expr} {a : Sm} (h : trTup g c n us v = some a) : SOk k X (.Assign [.Tuple us kd p] v pos) (ex cf a) := by
  revert h; refine bind_r2 fun xs e1 is e2 h => ?_
  have h : (match tupOf v with | some es => trTupT g c n us es xs is | none => trTupV g c n xs is v) = some a := h
  revert h
  cases ev : tupOf v with
  | some es =>
    intro h
    obtain ⟨kd2, p2, e⟩ := tupOf_some ev
    rw [e]
    exact ok_tupT T C e1 e2 h
  | none =>
    refine bind_er fun a1 e3 h => ?_
    revert h; refine ite_er fun q h => ?_
    cases h
    exact sok_unp C.env.fx e1 (tgts_of C.cx e2 q) ((T n).e c X _ _ C e3) sole_tup (swapped_none ev)
theorem ok_set (T : ∀ n, TrOk k g cf B n) {n : Nat} {c : Cx} {X : Fx} (C : Ctx B X c) {w i v : Expr} {p pos : Pos} {a : Sm} (h : trSet g c n w i v = some a) : SOk k X (.Assign [.Subscript w i p] v pos) (ex cf a) := by
  revert h; refine bind_r4 fun x e1 k1 e2 b e3 a1 e4 h => ?_
  cases h
  obtain ⟨wp, e⟩ := nameOf_some e1
  rw [e]
  exact sok_setIdx C.env.fx (C.cx.dR e2) (C.cx.res _ _ e2) ((T n).e c X _ _ C e4) ((T n).e c X _ _ C e3)
theorem step_asg (hG : Gnd g B.hb mg mb) (T : ∀ n, TrOk k g cf B n) {n : Nat} {c : Cx} {X : Fx} {ts : List Expr} {v : Expr} {pos : PySem.Pos} {a : Sm} (C : Ctx B X c) (h : trS g c (n + 1) (.Assign ts v pos) = some a) : SOk k X (.Assign ts v pos) (ex cf a) := by
  revert h; refine bind_er fun t e0 h => ?_
  rw [one_some e0]
  have h : (match nameOf t with | some x => trName g c n x v | none => (match tupOf t with | some us => trTup g c n us v | none => subOf t >>= fun q => trSet g c n q.1 q.2 v)) = some a := h
  clear e0
  revert h
  cases e1 : nameOf t with
  | some x =>
    intro h
    obtain ⟨p, e⟩ := nameOf_some e1
    rw [e]
    exact ok_name hG T C h
  | none =>
    cases e2 : tupOf t with
    | some us =>
      intro h
      obtain ⟨kd, p, e⟩ := tupOf_some e2
      rw [e]
      exact ok_tup T C h
    | none =>
      refine bind_er fun q e3 h => ?_
      obtain ⟨p, e⟩ := subOf_some e3
      rw [e]
      exact ok_set T C h
theorem ok_mn (T : ∀ n, TrOk k g cf B n) {n : Nat} {c : Cx} {X : Fx} (C : Ctx B X c) {x m : Str} {y : Expr} {ln : Bool} {vp ap pos spos : Pos} {a : Sm} (hl : ln = (ap.endLine == pos.line)) (h : trMN g c n x m y ln = some a) :
    SOk k X (.Expr (.Call (.Attribute (.Name x vp) m ap) [y] [] pos) spos) (ex cf a) := by
  revert h; refine bind_r3 fun i e2 a1 e3 me hm h => ?_
  revert h; refine ite_er fun hline h => ?_
  have hline := hl.symm.trans hline
  have hd := C.cx.dR e2
  have hi := C.cx.res _ _ e2
  have r := (T n).e c X _ _ C e3
  have hs := tr_notStar e3
  have hm := meOf_some hm
  have hX := C.env.fx
  clear hl e2 e3 C
  cases h
  cases me with
  | append =>
    by_cases q : isListDisplay y = true
    · rw [show meSm y i a1 .append = .appendN i a1 from if_pos q]
      exact sok_appendN hX hd hi hm hline hs r
    · rw [show meSm y i a1 .append = .append i a1 from if_neg q]
      exact sok_append hX hd hi hm hline hs r
  | extend => exact sok_extend hX hd hi hm hline hs r
  | remove => exact sok_remove hX hd hi hm hline hs r
theorem ok_ml {c : Cx} {X : Fx} (C : Ctx B X c) {v y : Expr} {m : Str} {ln : Bool} {ap pos spos : Pos} {a : Sm} (hl : ln = (ap.endLine == pos.line)) (h : trML c v m y ln = some a) :
    SOk k X (.Expr (.Call (.Attribute v m ap) [y] [] pos) spos) (ex cf a) := by
  revert h; refine bind_er fun q e2 h => ?_
  revert h; refine bind_r3 fun x e3 i e4 z e5 h => ?_
  revert h; refine ite_er fun q4 h => ?_
  cases h
  obtain ⟨q12, q3⟩ := Bool.and_eq_true_iff.mp q4
  obtain ⟨q1, q2⟩ := Bool.and_eq_true_iff.mp q12
  obtain ⟨vp, e⟩ := subOf_some e2
  obtain ⟨wp, e6⟩ := nameOf_some e3
  obtain ⟨y2, py, e7, e8⟩ := varOf_some e5
  rw [e, e6, e7]
  exact sok_appendL C.env.fx (C.cx.dR e4) (C.cx.res _ _ e4) (C.cx.dR e8) (C.cx.res _ _ e8) (eq_of_beq q3) (hl.symm.trans q2) q1
theorem step_meth (hG : Gnd g B.hb mg mb) (T : ∀ n, TrOk k g cf B n) {n : Nat} {c : Cx} {X : Fx} {e : Expr} {spos : PySem.Pos} {a : Sm} (C : Ctx B X c) (h : trS g c (n + 1) (.Expr e spos) = some a) : SOk k X (.Expr e spos) (ex cf a) := by
  revert h; refine bind_er fun p e0 h => ?_
  obtain ⟨ap, pos, e1, hl⟩ := methOf_some e0
  rw [e1]
  have h : (match nameOf p.1 with | some x => trMN g c n x p.2.1 p.2.2.1 p.2.2.2 | none => trML c p.1 p.2.1 p.2.2.1 p.2.2.2) = some a := h
  clear e0 e1
  revert h
  cases e2 : nameOf p.1 with
  | some x =>
    intro h
    obtain ⟨vp, e3⟩ := nameOf_some e2
    rw [e3]
    exact ok_mn T C hl h
  | none => exact fun h => ok_ml C hl h
theorem step_s (hG : Gnd g B.hb mg mb) (T : ∀ n, TrOk k g cf B n) {n : Nat} (ih : TrSOk k g cf B n) : ∀ (c : Cx) (X : Fx) (x : Stmt) (a : Sm), Ctx B X c → trS g c (n + 1) x = some a → SOk k X x (ex cf a) := by
  intro c X x a C h
  have hX := C.env.fx
  cases x with
  | Assign ts v p => exact step_asg hG T C h
  | Expr e p => exact step_meth hG T C h
  | For tgt it body els p =>
    revert h; refine bind_r4 fun xs e1 is e2 i e3 b e4 h => ?_
    obtain ⟨⟨q0, q⟩, h⟩ := ite_some h
    cases h
    obtain ⟨q1, q2⟩ := Bool.and_eq_true_iff.mp q
    rw [nil_of q0]
    exact sok_for hX (tgts_of C.cx e2 q1) e1 (tgt_two q2) ((T n).i c X _ _ C e3 _ q2) (ih.ss c X _ _ C e4) (notSet_folded (tri_notSet e3))
  | While t body els p =>
    revert h; refine bind_r2 fun a1 e1 b e2 h => ?_
    obtain ⟨q, h⟩ := ite_some h
    cases h
    rw [nil_of q]
    exact sok_while ((T n).e c X _ _ C e1) (ih.ss c X _ _ C e2)
  | If t x y p =>
    revert h; refine bind_r3 fun a1 e1 b e2 d e3 h => ?_
    cases h
    exact sok_if ((T n).e c X _ _ C e1) (ih.ss c X _ _ C e2) (ih.ss c X _ _ C e3)
  | Return v p =>
    revert h; refine bind_r2 fun e e0 a1 e1 h => ?_
    cases h
    have e0 : v = some e := e0
    subst e0
    exact sok_ret ((T n).e c X _ _ C e1)
  | Break p => cases h; exact sok_brk
  | _ => cases h
theorem step_ss {n : Nat} (ih : TrSOk k g cf B n) : ∀ (c : Cx) (X : Fx) (x : List Stmt) (a : Sms), Ctx B X c → trSs g c (n + 1) x = some a → SsOk k X x (exs cf a) := by
  intro c X x a C h
  cases x with
  | nil => cases h; exact sok_nil
  | cons s r =>
    rw [trSsq3] at h
    revert h; refine bind_r2 fun a1 e1 a2 e2 h => ?_
    cases h
    exact sok_seq (ih.s c X _ _ C e1) (ih.ss c X _ _ C e2)
theorem trS_ok (hG : Gnd g B.hb mg mb) (hcf : ∀ X, Base B X → CfOk k X g mg cf) : ∀ n, TrSOk k g cf B n
  | 0 => by
    refine ⟨?_, ?_⟩
    · intro c X x a C h; cases h
    · intro c X x a C h; cases h
  | n + 1 => by
    have ih := trS_ok hG hcf n
    exact ⟨step_s hG (tr_ok hG hcf) ih, step_ss ih⟩
end
end Mini
end
section
set_option autoImplicit false
set_option linter.unusedVariables false
set_option linter.unusedSimpArgs false
namespace Mini
set_option tactic.hygienic false
open PySem PySem.Calls PyProof.Rows
section
variable {k : Nat} {g : Glb} {mg mb : Str → Option Value} {B : Fx} {tbl : Nat → Option Fn}
noncomputable def FnTr (g : Glb) (hb : Heap) (mg : Str → Option Value) (tbl : Nat → Option Fn) : Prop :=
  ∀ (i : Nat) (x : Str), g.fns[i]? = some x → ∃ fa fn fd body ps ns, mg x = some (.ref fa) ∧ tbl i = some fn ∧ FnOk g hb fa fn fd body ps ns ∧
    trSs g { names := fd.scope.names, outer := ns, inner := [] } 60 body = some fn.body ∧ fd.scope.names.lookup ("__debug__" : Str) = none
set_option tactic.hygienic true in
theorem callee_ctx {X : Fx} {fa L : Addr} {fn : Fn} {fd : FuncData} {body : List Stmt} {ps ns : List Str} (hb : Base B X) (hsys : ∃ a o, sysModules ≤ a ∧ B.hb.get? a = some o) (O : FnOk g B.hb fa fn fd body ps ns) (hdbg : fd.scope.names.lookup ("__debug__" : Str) = none) :
    Ctx B (calleeX X fd ns L fa) { names := fd.scope.names, outer := ns, inner := [] } := by
  have nm : ∀ (i : Nat) (x : Str), (calleeX X fd ns L fa).names[i]? = some (some x) → ns[i]? = some x := fun i x e => by
    have e : (ns.map some)[i]? = some (some x) := e
    rw [List.getElem?_map] at e
    obtain ⟨y, e1, e2⟩ := Option.map_eq_some_iff.mp e
    cases e2; exact e1
  refine ⟨⟨hb.hb, hb.dk, hb.prog, hb.w⟩, ⟨O.kind, O.glob, O.bi, fun i j x e1 e2 => ?_, ?_⟩, ?_⟩
  · exact (List.getElem?_inj (lt_of_get (nm i x e1)) O.nodup).mp ((nm i x e1).trans (nm j x e2).symm)
  · have : (calleeX X fd ns L fa).hb = B.hb := hb.hb
    rw [this]; exact hsys
  · refine ⟨fun x e => ?_, fun x i e => ?_, hdbg, fun x e => ?_, fun x e => ?_, fun _ => ⟨rfl, fun x => rfl, fun x e => ?_, O.nodup⟩⟩
    · show fd.scope.names.lookup x = _
      simpa [Cx.isG] using e
    · have key : ∀ (h : ns.contains x = true), (calleeX X fd ns L fa).names[ns.idxOf x]? = some (some x) := fun h => by
        show (ns.map some)[ns.idxOf x]? = some (some x)
        rw [List.getElem?_map, idxOf_at (by simpa using h)]; rfl
      simp only [Cx.res] at e
      split at e
      · simp only [List.isEmpty_nil, if_true] at e
        split at e
        · rename_i h; cases e; exact key h
        · cases e
      · simp only [List.isEmpty_nil, Bool.true_and] at e
        split at e
        · rename_i h; cases e; exact key h
        · cases e
      · simp at e
      · cases e
    · show fd.scope.names.lookup x = _
      simpa [Cx.isL] using e
    · show fd.scope.names.lookup x = _
      simpa [Cx.isC] using e
    · have : ((cellsFrom (L + 1) fd.scope.names []).lookup x).isSome = true := PySem.W.cellsFrom_some _ _ _ (.inl e)
      obtain ⟨cc, e⟩ := Option.isSome_iff_exists.mp this
      exact ⟨cc, e⟩
theorem calls_ok (hG : Gnd g B.hb mg mb) (hsys : ∃ a o, sysModules ≤ a ∧ B.hb.get? a = some o) (hF : FnTr g B.hb mg tbl) : ∀ (k : Nat) (X : Fx), Base B X → CfOk k X g mg (callF tbl k)
  | 0, X, hb => cfok_zero fun i x hi => by
    obtain ⟨fa, fn, fd, body, ps, ns, h1, h2, O, _⟩ := hF i x hi
    exact ⟨fa, fn, fd, body, ps, ns, h1, h2, by rw [hb.hb]; exact O⟩
  | k + 1, X, hb => by
    have ih := calls_ok hG hsys hF k
    refine cfok_succ (by rw [hb.hb]; exact hG.lim) fun i x hi => ?_
    obtain ⟨fa, fn, fd, body, ps, ns, h1, h2, O, h3, h4⟩ := hF i x hi
    exact ⟨fa, fn, fd, body, ps, ns, h1, h2, by rw [hb.hb]; exact O, fun L => (trS_ok hG ih 60).ss _ _ _ _ (callee_ctx hb hsys O h4) h3⟩
end
end Mini
end
section
set_option autoImplicit false
namespace Mini
set_option tactic.hygienic false
open PySem PySem.Calls PyProof.Rows
theorem fm_congr {α β : Type} {f g : α → Option β} : ∀ (l : List α), (∀ a ∈ l, f a = g a) → l.filterMap f = l.filterMap g
  | [], _ => rfl
  | a :: l, h => by
    rw [List.filterMap_cons, List.filterMap_cons, h a (by simp), fm_congr l fun b q => h b (List.mem_cons_of_mem _ q)]
theorem lookup_zip_some {ps : List Str} {vals : List Value} (hl : vals.length = ps.length) : ∀ n ∈ ps, ((ps.zip vals).lookup n).isSome = true := by
  induction ps generalizing vals with
  | nil => intro n h; cases h
  | cons p ps ih =>
    intro n h
    cases vals with
    | nil => cases hl
    | cons v vals =>
      rw [List.zip_cons_cons, List.lookup_cons]
      cases q : n == p with
      | true => rfl
      | false =>
        rcases List.mem_cons.mp h with rfl | h
        · simp at q
        · exact ih (by simpa using hl) n h
theorem filterMap_zip {ps : List Str} {vals : List Value} (hl : vals.length = ps.length) (nd : ps.Nodup) : (ps.filterMap fun n => ((ps.zip vals).lookup n).map (n, ·)) = ps.zip vals := by
  induction ps generalizing vals with
  | nil => rfl
  | cons p ps ih =>
    cases vals with
    | nil => cases hl
    | cons v vals =>
      have nd' := List.nodup_cons.mp nd
      rw [List.zip_cons_cons, List.filterMap_cons]
      have e1 : ((p, v) :: ps.zip vals).lookup p = some v := by simp [List.lookup_cons]
      rw [e1]
      simp only [Option.map_some]
      congr 1
      refine Eq.trans (fm_congr ps fun n hn => ?_) (ih (vals := vals) (by simpa using hl) nd'.2)
      have : (n == p) = false := by
        have : n ≠ p := fun z => nd'.1 (z ▸ hn)
        simpa using this
      rw [List.lookup_cons, this]
theorem pbE {α β : Type} {x : Sem α} {a : α} {f : α → Sem β} {r : Sem β} (h : x = pure a) (e : f a = r) : (x >>= f) = r := h ▸ e
theorem iteE {α : Type} {c : Prop} [Decidable c] {a b r : α} (h : ¬c) (e : b = r) : ite c a b = r := (if_neg h).trans e
theorem forE {α β : Type} {l : List α} {i : β} {f : α → β → Sem (ForInStep β)} (h : l = []) : forIn l i f = pure i := h ▸ rfl
theorem zdn {α β : Type} (l : List α) (n : Nat) : l.zip (([] : List β).drop n) = [] := by rw [List.drop_nil, List.zip_nil_right]
theorem miss_nil {ns : List Str} {vals : List Value} (hl : vals.length = ns.length) (n : Nat) : (ns.take n).filter (fun n => ((ns.zip vals).lookup n).isNone) = [] :=
  List.filter_eq_nil_iff.mpr fun n hn q => by
    have := lookup_zip_some hl n (List.mem_of_mem_take hn)
    rw [Option.isNone_iff_eq_none.mp q] at this
    cases this
theorem bind_form (n : Str) (b : List Stmt) (sc : Scope) (pm cd doc : Value) (as : List Arg) (vals : List Value) (kd : List (Option Expr)) (df : List Expr) (nd : (as.map (·.arg)).Nodup) (hl : vals.length = (as.map (·.arg)).length) :
    bindArgs (docDef n ⟨[], as, none, [], kd, none, df⟩ b sc pm cd doc) ⟨vals, []⟩ = pure ((as.map (·.arg)).zip vals) := by
  refine pbE rfl ?_
  refine pbE rfl ?_
  refine iteE (fun q => Nat.ne_of_gt (of_decide_eq_true (Bool.and_eq_true_iff.mp q).1) hl) ?_
  refine iteE (fun q => Bool.noConfusion ((congrArg (fun l : List Str => !l.isEmpty) (miss_nil hl _)).symm.trans q)) ?_
  refine pbE (forE (zdn _ _)) ?_
  refine pbE rfl ?_
  refine iteE Bool.noConfusion ?_
  exact congrArg pure ((congrArg (List.filterMap _) (List.append_nil _)).trans (filterMap_zip hl nd))
theorem bind_plain {n : Str} {a : Arguments} {b : List Stmt} {sc : Scope} {pm cd doc : Value} {vals : List Value} (h1 : a.posonlyargs = []) (h2 : a.vararg = none) (h3 : a.kwonlyargs = []) (h4 : a.kwarg = none)
    (nd : (a.args.map (·.arg)).Nodup) (hl : vals.length = (a.args.map (·.arg)).length) : bindArgs (docDef n a b sc pm cd doc) ⟨vals, []⟩ = pure ((a.args.map (·.arg)).zip vals) := by
  rcases a with ⟨po, as, va, ko, kd, ka, df⟩
  rcases (h1 : po = []) with rfl
  rcases (h2 : va = none) with rfl
  rcases (h3 : ko = []) with rfl
  rcases (h4 : ka = none) with rfl
  exact bind_form n b sc pm cd doc as vals kd df nd hl
end Mini
end
section
set_option autoImplicit false
set_option linter.unusedVariables false
set_option linter.unusedSimpArgs false
namespace Mini
set_option tactic.hygienic false
open PySem PySem.Calls PyProof.Rows
noncomputable def recOk (d : DefRec) : Bool :=
  d.params.posonlyargs.isEmpty && d.params.vararg.isNone && d.params.kwonlyargs.isEmpty && d.params.kwarg.isNone && distinct (d.params.args.map (·.arg)) && distinct (varsOf d.scope) && decide (d.scope.kind = .function) && !d.scope.isCoroutine && !d.scope.isGenerator
    && (varsOf d.scope).all (fun x => d.scope.names.lookup x == some .local || d.scope.names.lookup x == some .cell) && d.scope.names.lookup ("__debug__" : Str) == none
noncomputable def glbOf (p : Program) (cs : List (Str × Int)) : Glb := { consts := cs, fns := (recsOf p).map (·.name) }
noncomputable def tblOf (p : Program) (cs : List (Str × Int)) (i : Nat) : Option Fn := match (recsOf p)[i]? with | some d => trF (glbOf p cs) d.params d.body d.scope | none => none
section
variable {p : Program} {loose : List Str} {mean : ExcName → Option Value} {mg mb : Str → Option Value} {h : Heap} {cs : List (Str × Int)}
set_option tactic.hygienic true in
theorem trF_some {g : Glb} {args : Arguments} {body : List Stmt} {scope : Scope} {fn : Fn} (e : trF g args body scope = some fn) :
    (varsOf scope).take (args.args.map (·.arg)).length = args.args.map (·.arg) ∧ fn.np = (args.args.map (·.arg)).length ∧ fn.nv = (varsOf scope).length ∧ trSs g { names := scope.names, outer := varsOf scope, inner := [] } 60 body = some fn.body := by
  unfold trF at e
  dsimp only at e
  split at e
  · rename_i q
    revert e; refine bind_er fun b e1 e => ?_
    cases e
    exact ⟨by simpa using q, rfl, rfl, e1⟩
  · cases e
theorem sys_of (T : Top p loose mean mg mb h) : ∃ a o, sysModules ≤ a ∧ h.get? a = some o := by
  obtain ⟨mc, ⟨o, es, ep, e, _⟩, _⟩ := T.nodigits
  exact ⟨cStatics, o, by decide, e⟩
theorem fnTr_of (T : Top p loose mean mg mb h) (hok : (recsOf p).all recOk = true) (htr : (recsOf p).all (fun d => (trF (glbOf p cs) d.params d.body d.scope).isSome) = true) : FnTr (glbOf p cs) h mg (tblOf p cs) := by
  intro i x hi
  have hi : ((recsOf p).map (·.name))[i]? = some x := hi
  rw [List.getElem?_map] at hi
  obtain ⟨d, hd, rfl⟩ := Option.map_eq_some_iff.mp hi
  have hm := List.mem_of_getElem? hd
  obtain ⟨a, o, pm, code, doc, h1, h2, h3, h4⟩ := T.fn d hm
  have k1 := List.all_eq_true.mp hok d hm
  have k2 := List.all_eq_true.mp htr d hm
  obtain ⟨fn, hfn⟩ := Option.isSome_iff_exists.mp k2
  obtain ⟨t1, t2, t3, t4⟩ := trF_some hfn
  simp only [recOk, Bool.and_eq_true, Bool.not_eq_true', decide_eq_true_eq] at k1
  obtain ⟨⟨⟨⟨⟨⟨⟨⟨⟨⟨q1, q2⟩, q3⟩, q4⟩, q5⟩, q6⟩, q7⟩, q8⟩, q9⟩, q10⟩, q11⟩ := k1
  refine ⟨a, fn, docDef d.name d.params d.body d.scope pm code doc, d.body, d.params.args.map (·.arg), varsOf d.scope, h1, by unfold tblOf; rw [hd]; exact hfn, ?_, t4, (by simpa using q11 : d.scope.names.lookup ("__debug__" : Str) = none)⟩
  exact {
    obj := ⟨o, h2, h3⟩
    code := h4
    bod := rfl
    clo := rfl
    glob := rfl
    bi := rfl
    kind := q7
    co := q8
    gen := q9
    bind := fun vals hl => bind_plain (by simpa using q1 : d.params.posonlyargs = []) (by simpa using q2 : d.params.vararg = none) (by simpa using q3 : d.params.kwonlyargs = []) (by simpa using q4 : d.params.kwarg = none) (distinct_nodup q5) hl
    np := t2
    nv := t3
    pre := t1
    nodup := distinct_nodup q6
    kinds := fun x hx => by
      have := List.all_eq_true.mp q10 x hx
      show d.scope.names.lookup x = some .local ∨ d.scope.names.lookup x = some .cell
      simpa using this }
theorem reads_int {i : Int} {v : Value} {h : Heap} {as : List Addr} (r : Reads h v (.int i) as) : ∃ t, v = .int i t := by
  cases r with
  | int _ t => exact ⟨t, rfl⟩
theorem gnd_of (T : Top p loose mean mg mb h) (hb : ∀ q ∈ bootV, q.1 ∉ startupNames ∧ q.1 ∉ loose ∧ q.1 ∉ (recsOf p).map (·.name) ∧ q.1 ∉ (litsOf p).map (·.1) ∧ q.1 ∉ (clssOf p loose).map (·.name) ∧ q.1 ≠ "__name__" ∧ bootBuiltins q.1 = some q.2)
    (hc : ∀ q ∈ cs, valOf p q.1 = some (.int q.2)) : Gnd (glbOf p cs) h mg mb := {
  gn := T.g
  bn := T.b
  lim := T.nolimit
  boot := fun q hq => by
    obtain ⟨h1, h2, h3, h4, h5, h6, h7⟩ := hb q hq
    exact ⟨T.free q.1 h1 h2 h3 h4 h5, by rw [T.builtins q.1 h6, h7]⟩
  consts := fun q hq => by
    obtain ⟨v, e1, e2⟩ := T.const q.1 _ (hc q hq)
    obtain ⟨t, rfl⟩ := reads_int (e2 h)
    exact ⟨t, e1⟩ }
end
end Mini
end
section
open PySem PySem.W PyProof.Rows
set_option maxRecDepth 100000
set_option maxHeartbeats 8000000
namespace Mini
set_option tactic.hygienic false
noncomputable def keepL : List Nat := [1, 2, 4, 5, 6, 7, 8, 9, 10, 11, 12, 13, 14, 15, 16, 17, 18, 19, 20, 21, 22, 23, 24, 25, 27, 28, 29, 30, 31, 32, 33, 34, 35, 36, 37, 38, 39]
noncomputable def q0 : Program := view PySem.Challenge.pw_np0027_01 keepL
theorem said0 : PySem.Challenge.rw_np0027_01.wellSaid = true := by kernel_rfl
end Mini
end
section
open PySem PySem.W PyProof.Rows
set_option maxRecDepth 100000
set_option maxHeartbeats 8000000
namespace Mini
set_option tactic.hygienic false
theorem left0 : LeftO PySem.Challenge.pw_np0027_01 q0 [] (fun s => xlAt q0 [] s && PySem.W.recOk (RowW.records PySem.Challenge.rw_np0027_01.row.toRowW) s) Hook.none.obs Hook.none.val 2254 := fun w => by kernel_rfl
end Mini
end
section
open PySem PySem.W PyProof.Rows Mini
set_option maxRecDepth 100000
set_option maxHeartbeats 4000000
namespace Mini
set_option tactic.hygienic false
noncomputable def csL : List (Str × Int) := [("BLANK", 32), ("TAB", 9), ("ROW_END", 10), ("DASH", 45), ("ZERO", 48), ("NINE", 57)]
theorem ok1 : (recsOf q0).all recOk = true := by decide +kernel
theorem ok2 : (recsOf q0).all (fun d => (trF (glbOf q0 csL) d.params d.body d.scope).isSome) = true := by decide +kernel
end Mini
namespace Mini
theorem ok3 : csL.all (fun q => match valOf q0 q.1 with | some (.int i) => i == q.2 | _ => false) = true := by decide +kernel
theorem ok4 : bootV.all (fun q => !(startupNames.contains q.1) && !((looseW q0 []).contains q.1) && !(((recsOf q0).map (·.name)).contains q.1) && !(((litsOf q0).map (·.1)).contains q.1) && !(((clssOf q0 (looseW q0 [])).map (·.name)).contains q.1) && (q.1 != ("__name__" : Str))) = true := by decide +kernel
theorem ok5 : ∀ q ∈ bootV, bootBuiltins q.1 = some q.2 := by
  intro q hq
  simp only [bootV, List.mem_cons, List.not_mem_nil, or_false] at hq
  rcases hq with rfl | rfl | rfl | rfl | rfl | rfl | rfl | rfl <;> kernel_rfl
theorem okB : ∀ q ∈ bootV, q.1 ∉ startupNames ∧ q.1 ∉ looseW q0 [] ∧ q.1 ∉ (recsOf q0).map (·.name) ∧ q.1 ∉ (litsOf q0).map (·.1) ∧ q.1 ∉ (clssOf q0 (looseW q0 [])).map (·.name) ∧ q.1 ≠ "__name__" ∧ bootBuiltins q.1 = some q.2 := by
  intro q hq
  have h := List.all_eq_true.mp ok4 q hq
  simp only [Bool.and_eq_true, Bool.not_eq_true', bne_iff_ne] at h
  obtain ⟨⟨⟨⟨⟨h1, h2⟩, h3⟩, h4⟩, h5⟩, h6⟩ := h
  have no : ∀ {l : List Str}, l.contains q.1 = false → q.1 ∉ l := fun e z => by
    have : _ = true := List.contains_iff_mem.mpr z
    rw [this] at e; cases e
  exact ⟨no h1, no h2, no h3, no h4, no h5, h6, ok5 q hq⟩
set_option tactic.hygienic true in
theorem okC : ∀ q ∈ csL, valOf q0 q.1 = some (.int q.2) := by
  intro q hq
  have h := List.all_eq_true.mp ok3 q hq
  split at h
  · rename_i i e
    rw [e, eq_of_beq h]
  · cases h
end Mini
end
section
set_option autoImplicit false
set_option linter.unusedVariables false
set_option linter.unusedSimpArgs false
namespace Mini
set_option tactic.hygienic false
open PySem PySem.Calls PyProof.Rows
theorem ints_rep {f : Frz} : ∀ {vs : List Value} {ns : List Int}, IntsAre vs ns → RepL f vs (ns.map D.int)
  | _, _, .nil => .nil
  | _, _, .cons n t r => .cons (.int n t) (ints_rep r)
theorem rep_ints {f : Frz} : ∀ {vs : List Value} {ns : List Int}, RepL f vs (ns.map D.int) → IntsAre vs ns
  | [], [], _ => .nil
  | [], _ :: _, r => nomatch r
  | _ :: _, [], r => nomatch r
  | v :: vs, n :: ns, r => by
    cases (r) with
    | cons h r => exact h.intE (Z := fun v => IntsAre (v :: vs) (n :: ns)) fun t => .cons n t (rep_ints r)
section
variable {g : Glb} {mg mb : Str → Option Value} {tbl : Nat → Option Fn} {k : Nat}
structure LawEnv (env : Env) (L : Addr) (xs xd : Str) (vr : List Str) : Prop where
  kind : env.scope.kind = .function
  glob : env.globals = mainGlobals
  bi : env.builtins = builtinsNs
  loc : env.locals = L
  dbg : env.scope.names.lookup ("__debug__" : Str) = none
  nodup : (xs :: xd :: vr).Nodup
  ks : env.scope.names.lookup xs = some .local
  kd : env.scope.names.lookup xd = some .cell
  only : ∀ x, env.scope.names.lookup x = some .cell → x = xd
  cell : env.cells.lookup xd = some (L + 1)
noncomputable def lawX (env : Env) (vars : List Str) (hb : Heap) (dk : Option Addr) (prog : Program) (w : World) : Fx := { env := env, names := vars.map some, hb := hb, dk := dk, prog := prog, w := w }
theorem names_at {X : Fx} {l : List Str} (hn : X.names = l.map some) {i : Nat} {x : Str} (e : X.names[i]? = some (some x)) : l[i]? = some x := by
  rw [hn, List.getElem?_map] at e
  obtain ⟨y, e1, e2⟩ := Option.map_eq_some_iff.mp e
  rw [e1, Option.some.inj e2]
set_option tactic.hygienic true in
theorem law_ctx {env : Env} {L : Addr} {xs xd : Str} {vr : List Str} {hb : Heap} {dk : Option Addr} {prog : Program} {w : World} (O : LawEnv env L xs xd vr) (hsys : ∃ a o, sysModules ≤ a ∧ hb.get? a = some o) :
    Ctx (lawX env (xs :: xd :: vr) hb dk prog w) (lawX env (xs :: xd :: vr) hb dk prog w) { names := env.scope.names, outer := xs :: xd :: vr, inner := [] } := by
  have nm : ∀ (i : Nat) (x : Str), (lawX env (xs :: xd :: vr) hb dk prog w).names[i]? = some (some x) → (xs :: xd :: vr)[i]? = some x := fun i x e => names_at rfl e
  refine ⟨⟨rfl, rfl, rfl, rfl⟩, ⟨O.kind, O.glob, O.bi, fun i j x e1 e2 => ?_, hsys⟩, ?_⟩
  · exact (List.getElem?_inj (lt_of_get (nm i x e1)) O.nodup).mp ((nm i x e1).trans (nm j x e2).symm)
  · refine ⟨fun x e => ?_, fun x i e => ?_, O.dbg, fun x e => ?_, fun x e => ?_, fun _ => ⟨rfl, fun x => rfl, fun x e => ?_, O.nodup⟩⟩
    · show env.scope.names.lookup x = _
      simpa [Cx.isG] using e
    · have key : ∀ (h : (xs :: xd :: vr).contains x = true), (lawX env (xs :: xd :: vr) hb dk prog w).names[(xs :: xd :: vr).idxOf x]? = some (some x) := fun h => by
        show ((xs :: xd :: vr).map some)[(xs :: xd :: vr).idxOf x]? = some (some x)
        rw [List.getElem?_map, idxOf_at (by simpa using h)]; rfl
      simp only [Cx.res] at e
      split at e
      · simp only [List.isEmpty_nil, if_true] at e
        split at e
        · rename_i h; cases e; exact key h
        · cases e
      · simp only [List.isEmpty_nil, Bool.true_and] at e
        split at e
        · rename_i h; cases e; exact key h
        · cases e
      · simp at e
      · cases e
    · show env.scope.names.lookup x = _
      simpa [Cx.isL] using e
    · show env.scope.names.lookup x = _
      simpa [Cx.isC] using e
    · have := O.only x e
      subst this
      exact ⟨_, O.cell⟩
theorem law_inv0 {X0 : Fx} {h0 h₁ : Heap} {f0 : Frz} {L : Addr} {xs xd : Str} {vr : List Str} {m : Str → Option Value} {sa : Addr} {l : List D} {oc : Obj} (O : LawEnv X0.env L xs xd vr) (hn : X0.names = (xs :: xd :: vr).map some) (hdk : X0.dk = none) (hhb : X0.hb = h0)
    (keep : ∀ b o, h0.get? b = some o → h₁.get? b = some o) (hns : h₁.Ns L m) (hm : m xs = some (.ref sa)) (hcell : h₁.get? (L + 1) = some oc) (hoc : oc.data = .cell none) (f0of : ∀ a o, f0 a = some o → h0.get? a = some o)
    (f0new : ∀ j, f0 (L + j) = none) (Pnew : ∀ j, h0.get? (L + j) = none) (f0ok : Rep f0 (.ref sa) (.list l)) :
    Inv X0 (fun a => h0.get? a) f0 { v := .fro (.list l) :: .unset :: List.replicate vr.length .unset, dk := [] } (fun i => if i = 0 then .ref sa else .none) (fun i => if i = 1 then [L + 1] else []) h₁ := by
  have nmX : ∀ (i : Nat) (x : Str), X0.names[i]? = some (some x) → (xs :: xd :: vr)[i]? = some x := fun i x e => names_at hn e
  exact {
    frz := fun a o e => keep a o (f0of a o e)
    prs := keep
    base := fun a o e => by rw [hhb] at e; exact e
    len := by rw [hn]; simp
    ns := by
      refine ⟨m, by rw [O.loc]; exact hns, fun i s x e1 e2 e3 => ?_⟩
      cases i with
      | zero =>
        have := nmX 0 x e2
        simp at this; subst this
        refine .inl ⟨ O.ks, by simpa using hm⟩
      | succ i =>
        exfalso
        cases i with
        | zero => simp at e1; exact e3 e1.symm
        | succ i =>
          simp [List.getElem?_replicate] at e1
          exact e3 e1.2.symm
    slot := fun i s e => by
      cases i with
      | zero => simp at e; subst e; exact .fro f0ok
      | succ i =>
        cases i with
        | zero =>
          simp at e; subst e
          refine .unset fun a q => ?_
          simp at q; subst q; exact ⟨_, hcell⟩
        | succ i =>
          simp [List.getElem?_replicate] at e
          rw [← e.2]
          exact .unset fun a q => by simp at q
    cel := fun i x e1 e2 e3 => by
      have e2 := nmX i x e2
      have hx := O.only x e3
      subst hx
      have hi : i = 1 := (List.getElem?_inj (lt_of_get e2) O.nodup).mp (e2.trans (by simp : (xs :: x :: vr)[1]? = some x).symm)
      subst hi
      exact ⟨_, oc,  O.cell, hcell, hoc, by simp⟩
    out := fun i hi => by
      have : i ≠ 1 := by simp at hi; (first | lia | omega)
      simp [this]
    deck := fun a e => by rw [hdk] at e; cases e
    locF := by rw [O.loc]; exact ⟨f0new 0, Pnew 0⟩
    dkF := fun a e => by rw [hdk] at e; cases e
    asF := fun i a q => by
      split at q
      · simp at q; subst q
        refine ⟨f0new 1, Pnew 1, by rw [O.loc]; exact Nat.succ_ne_self _, by rw [hdk]; simp⟩
      · cases q
    asN := fun i => by split <;> simp
    asD := fun i j a hij q q' => by
      split at q
      · split at q'
        · (first | lia | omega)
        · cases q'
      · cases q }
theorem law_inv1 {env : Env} {L : Addr} {xs xd : Str} {vr : List Str} {hb : Heap} {prog : Program} {w : World} {P f1 : Frz} {h2 h' : Heap} {d0 : D} {dk0 dl : List Int} {vs : Nat → Value} {as1 : Nat → List Addr} {cc Dk : Addr} {o' : Obj} {dws : Array Value} {dn : Nat} (O : LawEnv env L xs xd vr)
    (I1 : Inv (lawX env (xs :: xd :: vr) hb none prog w) P f1 { v := .fro d0 :: .unset :: List.replicate vr.length .unset, dk := dk0 } vs as1 h2)
    (c1 : env.cells.lookup xd = some cc) (c4 : as1 1 = [cc]) (g1 : h'.get? cc = some o') (g2 : o'.data = .cell (some (.ref Dk))) (kp : ∀ b o, b ≠ cc → h2.get? b = some o → h'.get? b = some o)
    (gD : h2.get? Dk = some (seqObj "list" dws dn)) (hdk' : IntsAre dws.toList dl) (hdl : dl.length ≤ lim) (q1 : f1 Dk = none) (q2 : P Dk = none) (q3 : Dk ≠ env.locals) (q5 : ∀ i, Dk ∉ as1 i) :
    Inv (lawX env (xs :: xd :: vr) hb (some Dk) prog w) P (f1.put cc o') { v := .fro d0 :: .deck :: List.replicate vr.length .unset, dk := dl } (updF vs 1 (.ref Dk)) (updF as1 1 []) h' := by
  have nmX : ∀ (i : Nat) (x : Str), (lawX env (xs :: xd :: vr) hb none prog w).names[i]? = some (some x) → (xs :: xd :: vr)[i]? = some x := fun i x e => names_at rfl e
  have pc := I1.asF 1 cc (by rw [c4]; exact List.mem_cons_self ..)
  have sb := Frz.put_sub (f := f1) (a := cc) o' pc.1
  have hDc : Dk ≠ cc := fun z => q5 1 (by rw [c4, z]; exact List.mem_cons_self ..)
  exact {
    frz := fun a ob z => by
      by_cases ha : a = cc
      · subst ha; rw [Frz.put_self] at z; cases z; exact g1
      · rw [Frz.put_ne f1 _ ha] at z; exact kp a ob ha (I1.frz a ob z)
    prs := fun a ob z => kp a ob (fun y => by rw [y, pc.2.1] at z; cases z) (I1.prs a ob z)
    base := I1.base
    len := I1.len
    ns := by
      obtain ⟨m, n, b⟩ := I1.ns
      refine ⟨m, ?_, fun j sl y e1 e2 e3 => ?_⟩
      · obtain ⟨ob, es, ep, z, w⟩ := n
        exact ⟨ob, es, ep, kp _ _ (Ne.symm pc.2.2.1) z, w⟩
      · cases j with
        | zero =>
          rw [updF_ne _ _ (by decide)]
          exact (b 0 _ y rfl e2 (by simp)).mono sb
        | succ j =>
          cases j with
          | zero =>
            have := nmX 1 y e2
            simp at this; subst this
            rw [updF_self]
            exact .inr ⟨.inl O.kd, cc, o', c1, Frz.put_self .., g2⟩
          | succ j =>
            simp [List.getElem?_replicate] at e1
            exact absurd e1.2.symm e3
    slot := fun j sl z => by
      cases j with
      | zero =>
        simp at z; subst z
        rw [updF_ne _ _ (by decide), updF_ne _ _ (by decide)]
        have v0 := (I1.slot 0 _ rfl).is
        rw [v0.1]
        exact .fro (v0.2.mono sb)
      | succ j =>
        cases j with
        | zero =>
          simp at z; subst z
          rw [updF_self, updF_self]
          exact .deck rfl
        | succ j =>
          simp [List.getElem?_replicate] at z
          rw [← z.2, updF_ne _ _ (by (first | lia | omega)), updF_ne _ _ (by (first | lia | omega))]
          refine .unset fun a q => ?_
          obtain ⟨ob, w⟩ := I1.asLt q
          exact ⟨ob, kp a ob (fun y => I1.asD (j + 1 + 1) 1 a (by (first | lia | omega)) q (by rw [c4, y]; simp)) w⟩
    cel := fun j y e1 e2 e3 => by
      have e2 := nmX j y e2
      have hy := O.only y e3
      subst hy
      have hj : j = 1 := (List.getElem?_inj (lt_of_get e2) O.nodup).mp (e2.trans (by simp : (xs :: y :: vr)[1]? = some y).symm)
      subst hj
      simp at e1
    out := fun j w => by
      have hj : j ≠ 1 := by simp at w; (first | lia | omega)
      rw [updF_ne as1 _ hj]; exact I1.out j (by simpa using w)
    deck := fun a w => by
      have w : Dk = a := Option.some.inj w
      rw [← w]
      exact ⟨dws, dn, kp _ _ hDc gD, hdk', hdl⟩
    locF := ⟨(Frz.put_ne f1 o' (Ne.symm pc.2.2.1)).trans I1.locF.1, I1.locF.2⟩
    dkF := fun a w => by
      have w : Dk = a := Option.some.inj w
      rw [← w]
      exact ⟨by rw [Frz.put_ne f1 _ hDc]; exact q1, q2, q3⟩
    asF := fun j a w => by
      by_cases hj : j = 1
      · subst hj; rw [updF_self] at w; cases w
      · rw [updF_ne as1 _ hj] at w
        obtain ⟨z1, z2, z3, z4⟩ := I1.asF j a w
        refine ⟨by rw [Frz.put_ne f1 _ (fun y => I1.asD j 1 a hj w (by rw [c4, y]; simp))]; exact z1, z2, z3, fun z => ?_⟩
        exact q5 j ((Option.some.inj z : Dk = a) ▸ w)
    asN := fun j => by
      by_cases hj : j = 1
      · subst hj; rw [updF_self]; exact List.nodup_nil
      · rw [updF_ne as1 _ hj]; exact I1.asN j
    asD := fun j l a hjl w w' => by
      by_cases hj : j = 1
      · subst hj; rw [updF_self] at w; cases w
      · by_cases hl : l = 1
        · subst hl; rw [updF_self] at w'; cases w'
        · rw [updF_ne as1 _ hj] at w; rw [updF_ne as1 _ hl] at w'; exact I1.asD j l a hjl w w' }
theorem law_run {prog : Program} {w : World} {A : Around} {env : Env} {s₁ : Shared} {h₁ : Heap} {tk : Nat} {xs xd : Str} {vr : List Str} {m : Str → Option Value} {sa : Addr} {ws : Array Value} {il dl : List Int} {oc : Obj} {p0 pos0 : Pos} {e0 : Expr} {rest : List Stmt} {a0 : Ex} {smr : Sms} {stE : St} {E : Value → Shared → Prop}
    (hA : AOk k A) (hG : Gnd g s₁.heap mg mb) (hsys : ∃ a o, sysModules ≤ a ∧ s₁.heap.get? a = some o) (hF : FnTr g s₁.heap mg tbl) (O : LawEnv env s₁.heap.objs.size xs xd vr)
    (keep : ∀ b o, s₁.heap.get? b = some o → h₁.get? b = some o) (hns : h₁.Ns s₁.heap.objs.size m) (hm : m xs = some (.ref sa)) (hcell : h₁.get? (s₁.heap.objs.size + 1) = some oc) (hoc : oc.data = .cell none)
    (hsa : s₁.heap.get? sa = some (seqObj "list" ws 0)) (hI : IntsAre ws.toList il) (hlen : il.length ≤ 63) (hdl : dl.length ≤ 63)
    (t0 : trE g { names := env.scope.names, outer := xs :: xd :: vr, inner := [] } 58 e0 = some a0) (t1 : trSs g { names := env.scope.names, outer := xs :: xd :: vr, inner := [] } 59 rest = some smr)
    (run0 : (ev (callF tbl k) a0).val { v := .fro (.list (il.map D.int)) :: .unset :: List.replicate vr.length .unset, dk := [] } = some (.own (dl.map D.int), { v := .fro (.list (il.map D.int)) :: .unset :: List.replicate vr.length .unset, dk := [] }))
    (run1 : exs (callF tbl k) smr { v := .fro (.list (il.map D.int)) :: .deck :: List.replicate vr.length .unset, dk := dl } = some (.ret (.fro (.bool true)), stE)) :
    wpAny (model prog w) A (execs (.Assign [.Name xd p0] e0 pos0 :: rest) env) (fun fl s' => fl = .ret (.bool true) ∧ (∀ b o, s₁.heap.get? b = some o → s'.heap.get? b = some o) ∧ s'.os = s₁.os ∧ s'.gens = s₁.gens) E { s₁ with heap := h₁, toks := tk } := by
  have hlt := Heap.lt_size hsa
  obtain ⟨f0, f0sa, f0of⟩ : ∃ f0 : Frz, f0 sa = some (seqObj "list" ws 0) ∧ ∀ a o, f0 a = some o → s₁.heap.get? a = some o :=
    ⟨fun a => if a = sa then some (seqObj "list" ws 0) else none, if_pos rfl, fun a o e => by
      by_cases q : a = sa
      · rw [q]; exact hsa.trans ((if_pos q).symm.trans e)
      · exact nomatch (if_neg q).symm.trans e⟩
  have Pnew : ∀ j, s₁.heap.get? (s₁.heap.objs.size + j) = none := fun j => by
    cases e : s₁.heap.get? (s₁.heap.objs.size + j) with
    | none => rfl
    | some o => exact absurd (Heap.lt_size e) (Nat.not_lt.mpr (Nat.le_add_right _ _))
  have f0new : ∀ j, f0 (s₁.heap.objs.size + j) = none := fun j => by
    cases e : f0 (s₁.heap.objs.size + j) with
    | none => rfl
    | some o => exact nomatch (Pnew j).symm.trans (f0of _ _ e)
  have I0 := law_inv0 (X0 := lawX env (xs :: xd :: vr) s₁.heap none prog w) O rfl rfl rfl keep hns hm hcell hoc f0of f0new Pnew (.list f0sa (by rw [List.length_map]; unfold lim; (first | lia | omega)) (ints_rep hI))
  clear f0sa f0of f0new hlt hm hcell hoc hsa hI keep
  have C0 := law_ctx (hb := s₁.heap) (dk := none) (prog := prog) (w := w) O hsys
  have T0 := tr_ok (k := k) (B := lawX env (xs :: xd :: vr) s₁.heap none prog w) hG (calls_ok (B := lawX env (xs :: xd :: vr) s₁.heap none prog w) hG hsys hF k) 58
  refine wpAny_execs_cons ?_
  refine wpAny_Assign_Name ((T0.e _ _ e0 a0 C0 t0).val A _ f0 _ _ _ { s₁ with heap := h₁, toks := tk } _ _ hA I0 run0 E _ fun v f1 as1 ar s2 G1 I1 R1 Sm1 => ?_) (swaps_cell O.kd)
  refine R1.ok.is _ fun Dk dws dn hv har gD kD rD => ?_
  obtain ⟨q1, q2, q3, q4, q5⟩ := R1.fr Dk (by rw [har]; exact List.mem_cons_self ..)
  obtain ⟨cc, o, c1, c2, c3, c4⟩ := I1.cel 1 xd rfl rfl O.kd
  rw [hv]
  refine wpAny_storeName_cell O.kind O.kd c1 ⟨o, c2, c3⟩ fun h' hcl hsb => ?_
  obtain ⟨o', g1, g2⟩ := hcl
  have I2 := law_inv1 O I1 c1 c4 g1 g2 (fun b o z y => (hsb.2 b z).trans y) gD (rep_ints rD) (by unfold lim; (first | lia | omega)) q1 q2 q3 q5
  have C1 := law_ctx (hb := s₁.heap) (dk := some Dk) (prog := prog) (w := w) O hsys
  have T1 := trS_ok (k := k) (B := lawX env (xs :: xd :: vr) s₁.heap (some Dk) prog w) hG (calls_ok (B := lawX env (xs :: xd :: vr) s₁.heap (some Dk) prog w) hG hsys hF k) 59
  refine T1.ss _ _ rest smr C1 t1 A _ _ _ _ _ { s2 with heap := h' } _ _ hA I2 run1 E _ fun fl f3 vs3 as3 s3 G3 I3 Ct3 Sm3 => ?_
  have hfl : fl = .ret (.bool true) := by
    generalize hc : Ctl.ret (.fro (.bool true)) = c at Ct3
    cases Ct3 with
    | ret R3 =>
      have hv := (R3.ok.is : SlotIs ..)
      rw [← Ctl.ret.inj hc] at hv
      exact congrArg Flow.ret hv.2.is
    | _ => exact nomatch hc
  exact ⟨hfl, fun b ob e => I3.prs b ob e, Sm3.os.trans Sm1.os, Sm3.gens.trans Sm1.gens⟩
end
end Mini
end
section
set_option autoImplicit false
set_option maxRecDepth 10000
namespace Mini
noncomputable def f0 : Fn := { np := 1, nv := 1, body := (
  Sms.cons
    (Sm.ifS
      (Ex.or
        (Ex.chain (Cp.le) (Cp.le) (Ex.int 65) (Ex.var 0) (Ex.int 90))
        (Ex.and
          (Ex.chain (Cp.le) (Cp.le) (Ex.int 192) (Ex.var 0) (Ex.int 222))
          (Ex.cmp (Cp.ne) (Ex.var 0) (Ex.int 215))))
      (Sms.cons (Sm.ret (Ex.add (Ex.var 0) (Ex.int 32))) (Sms.nil))
      (Sms.nil))
    (Sms.cons (Sm.ret (Ex.var 0)) (Sms.nil))) }
noncomputable def f1 : Fn := { np := 1, nv := 1, body := (
  Sms.cons
    (Sm.ret (Ex.comp [] 1 (It.val (Ex.var 0)) (Exs.nil) (Ex.call 0 (Exs.cons (Ex.var 1) (Exs.nil)))))
    (Sms.nil)) }
noncomputable def f2 : Fn := { np := 1, nv := 4, body := (
  Sms.cons
    (Sm.asg 1 (Ex.lst (Exs.nil)))
    (Sms.cons
      (Sm.asg 2 (Ex.int 0))
      (Sms.cons
        (Sm.forS
          [3]
          (It.range (Ex.len (Ex.var 0)))
          (Sms.cons
            (Sm.ifS
              (Ex.cmp (Cp.eq) (Ex.idxV 0 (Ex.var 3)) (Ex.int 10))
              (Sms.cons
                (Sm.append 1 (Ex.tup (Exs.cons (Ex.var 2) (Exs.cons (Ex.var 3) (Exs.nil)))))
                (Sms.cons (Sm.asg 2 (Ex.add (Ex.var 3) (Ex.int 1))) (Sms.nil)))
              (Sms.nil))
            (Sms.nil)))
        (Sms.cons
          (Sm.ifS
            (Ex.cmp (Cp.lt) (Ex.var 2) (Ex.len (Ex.var 0)))
            (Sms.cons
              (Sm.append 1 (Ex.tup (Exs.cons (Ex.var 2) (Exs.cons (Ex.len (Ex.var 0)) (Exs.nil)))))
              (Sms.nil))
            (Sms.nil))
          (Sms.cons (Sm.ret (Ex.var 1)) (Sms.nil)))))) }
noncomputable def f3 : Fn := { np := 2, nv := 2, body := (
  Sms.cons
    (Sm.ret
      (Ex.or
        (Ex.cmp (Cp.eq) (Ex.idxV 0 (Ex.var 1)) (Ex.int 32))
        (Ex.cmp (Cp.eq) (Ex.idxV 0 (Ex.var 1)) (Ex.int 9))))
    (Sms.nil)) }
noncomputable def f4 : Fn := { np := 3, nv := 6, body := (
  Sms.cons
    (Sm.asg 3 (Ex.lst (Exs.nil)))
    (Sms.cons
      (Sm.asg 4 (Ex.var 1))
      (Sms.cons
        (Sm.whileS
          (Ex.cmp (Cp.lt) (Ex.var 4) (Ex.var 2))
          (Sms.cons
            (Sm.whileS
              (Ex.and
                (Ex.cmp (Cp.lt) (Ex.var 4) (Ex.var 2))
                (Ex.call 3 (Exs.cons (Ex.var 0) (Exs.cons (Ex.var 4) (Exs.nil)))))
              (Sms.cons (Sm.asg 4 (Ex.add (Ex.var 4) (Ex.int 1))) (Sms.nil)))
            (Sms.cons
              (Sm.asg 5 (Ex.var 4))
              (Sms.cons
                (Sm.whileS
                  (Ex.and
                    (Ex.cmp (Cp.lt) (Ex.var 4) (Ex.var 2))
                    (Ex.not (Ex.call 3 (Exs.cons (Ex.var 0) (Exs.cons (Ex.var 4) (Exs.nil))))))
                  (Sms.cons (Sm.asg 4 (Ex.add (Ex.var 4) (Ex.int 1))) (Sms.nil)))
                (Sms.cons
                  (Sm.ifS
                    (Ex.cmp (Cp.gt) (Ex.var 4) (Ex.var 5))
                    (Sms.cons
                      (Sm.append 3 (Ex.tup (Exs.cons (Ex.var 5) (Exs.cons (Ex.var 4) (Exs.nil)))))
                      (Sms.nil))
                    (Sms.nil))
                  (Sms.nil))))))
        (Sms.cons (Sm.ret (Ex.var 3)) (Sms.nil))))) }
noncomputable def f5 : Fn := { np := 4, nv := 6, body := (
  Sms.cons
    (Sm.asg 4 (Ex.call 4 (Exs.cons (Ex.var 0) (Exs.cons (Ex.var 1) (Exs.cons (Ex.var 2) (Exs.nil))))))
    (Sms.cons
      (Sm.asg
        5
        (Ex.ite
          (Ex.cmp (Cp.gt) (Ex.var 3) (Ex.int 0))
          (Ex.sub (Ex.var 3) (Ex.int 1))
          (Ex.add (Ex.len (Ex.var 4)) (Ex.var 3))))
      (Sms.cons
        (Sm.ret
          (Ex.ite
            (Ex.chain (Cp.le) (Cp.lt) (Ex.int 0) (Ex.var 5) (Ex.len (Ex.var 4)))
            (Ex.idxV 4 (Ex.var 5))
            (Ex.none)))
        (Sms.nil)))) }
noncomputable def f6 : Fn := { np := 3, nv := 6, body := (
  Sms.cons
    (Sm.asg 3 (Ex.var 1))
    (Sms.cons
      (Sm.asg
        4
        (Ex.and
          (Ex.cmp (Cp.lt) (Ex.var 3) (Ex.var 2))
          (Ex.cmp (Cp.eq) (Ex.idxV 0 (Ex.var 3)) (Ex.int 45))))
      (Sms.cons
        (Sm.ifS (Ex.var 4) (Sms.cons (Sm.asg 3 (Ex.add (Ex.var 3) (Ex.int 1))) (Sms.nil)) (Sms.nil))
        (Sms.cons
          (Sm.asg 5 (Ex.int 0))
          (Sms.cons
            (Sm.whileS
              (Ex.and
                (Ex.cmp (Cp.lt) (Ex.var 3) (Ex.var 2))
                (Ex.chain (Cp.le) (Cp.le) (Ex.int 48) (Ex.idxV 0 (Ex.var 3)) (Ex.int 57)))
              (Sms.cons
                (Sm.asg
                  5
                  (Ex.sub (Ex.add (Ex.mul (Ex.int 10) (Ex.var 5)) (Ex.idxV 0 (Ex.var 3))) (Ex.int 48)))
                (Sms.cons (Sm.asg 3 (Ex.add (Ex.var 3) (Ex.int 1))) (Sms.nil))))
            (Sms.cons (Sm.ret (Ex.ite (Ex.var 4) (Ex.sub (Ex.int 0) (Ex.var 5)) (Ex.var 5))) (Sms.nil))))))) }
noncomputable def f7 : Fn := { np := 1, nv := 4, body := (
  Sms.cons
    (Sm.asg 1 (Ex.lst (Exs.nil)))
    (Sms.cons
      (Sm.forS
        [2, 3]
        (It.val (Ex.call 2 (Exs.cons (Ex.var 0) (Exs.nil))))
        (Sms.cons
          (Sm.ifS
            (Ex.and
              (Ex.cmp (Cp.lt) (Ex.var 2) (Ex.var 3))
              (Ex.cmp
                (Cp.gt)
                (Ex.len
                  (Ex.call 4 (Exs.cons (Ex.var 0) (Exs.cons (Ex.var 2) (Exs.cons (Ex.var 3) (Exs.nil))))))
                (Ex.int 0)))
            (Sms.cons
              (Sm.ifS
                (Ex.and
                  (Ex.cmp (Cp.gt) (Ex.len (Ex.var 1)) (Ex.int 0))
                  (Ex.cmp
                    (Cp.eq)
                    (Ex.idx (Ex.idxV 1 (Ex.sub (Ex.len (Ex.var 1)) (Ex.int 1))) (Ex.int 1))
                    (Ex.sub (Ex.var 2) (Ex.int 1))))
                (Sms.cons (Sm.asg 2 (Ex.idx (Ex.pop 1) (Ex.int 0))) (Sms.nil))
                (Sms.nil))
              (Sms.cons
                (Sm.append 1 (Ex.tup (Exs.cons (Ex.var 2) (Exs.cons (Ex.var 3) (Exs.nil)))))
                (Sms.nil)))
            (Sms.nil))
          (Sms.nil)))
      (Sms.cons (Sm.ret (Ex.var 1)) (Sms.nil)))) }
noncomputable def f8 : Fn := { np := 2, nv := 2, body := (
  Sms.cons (Sm.ret (Ex.sorted 9 (Ex.var 0) (Ex.var 1))) (Sms.nil)) }
noncomputable def f9 : Fn := { np := 1, nv := 1, body := (
  Sms.cons (Sm.ret (Ex.idxV 0 (Ex.int 2))) (Sms.nil)) }
noncomputable def f10 : Fn := { np := 3, nv := 10, body := (
  Sms.cons
    (Sm.asg 3 (Ex.call 8 (Exs.cons (Ex.var 1) (Exs.cons (Ex.var 2) (Exs.nil)))))
    (Sms.cons
      (Sm.asg 4 (Ex.lst (Exs.nil)))
      (Sms.cons
        (Sm.asg 5 (Ex.int 0))
        (Sms.cons
          (Sm.forS
            [6]
            (It.range (Ex.len (Ex.var 1)))
            (Sms.cons
              (Sm.unp [7, 8, 9] (Ex.idxV 1 (Ex.var 6)))
              (Sms.cons
                (Sm.extend 4 (Ex.sliceV 0 (Ox.some (Ex.var 5)) (Ox.some (Ex.var 7))))
                (Sms.cons
                  (Sm.extend
                    4
                    (Ex.sliceV
                      0
                      (Ox.some (Ex.idx (Ex.idxV 3 (Ex.var 6)) (Ex.int 0)))
                      (Ox.some (Ex.idx (Ex.idxV 3 (Ex.var 6)) (Ex.int 1)))))
                  (Sms.cons (Sm.asg 5 (Ex.var 8)) (Sms.nil))))))
          (Sms.cons (Sm.ret (Ex.add (Ex.var 4) (Ex.sliceV 0 (Ox.some (Ex.var 5)) (Ox.none)))) (Sms.nil)))))) }
noncomputable def f11 : Fn := { np := 2, nv := 6, body := (
  Sms.cons
    (Sm.asg 2 (Ex.lst (Exs.nil)))
    (Sms.cons
      (Sm.forS
        [3, 4]
        (It.val (Ex.call 2 (Exs.cons (Ex.var 0) (Exs.nil))))
        (Sms.cons
          (Sm.asg 5 (Ex.sliceV 0 (Ox.some (Ex.var 3)) (Ox.some (Ex.var 4))))
          (Sms.cons
            (Sm.append
              2
              (Ex.tup
                (Exs.cons
                  (Ex.var 3)
                  (Exs.cons
                    (Ex.var 4)
                    (Exs.cons
                      (Ex.ite (Ex.var 1) (Ex.call 1 (Exs.cons (Ex.var 5) (Exs.nil))) (Ex.var 5))
                      (Exs.nil))))))
            (Sms.nil))))
      (Sms.cons (Sm.ret (Ex.var 2)) (Sms.nil)))) }
noncomputable def f12 : Fn := { np := 2, nv := 6, body := (
  Sms.cons
    (Sm.asg 2 (Ex.lst (Exs.nil)))
    (Sms.cons
      (Sm.forS
        [3, 4]
        (It.val (Ex.call 7 (Exs.cons (Ex.var 0) (Exs.nil))))
        (Sms.cons
          (Sm.asg 5 (Ex.sliceV 0 (Ox.some (Ex.var 3)) (Ox.some (Ex.var 4))))
          (Sms.cons
            (Sm.append
              2
              (Ex.tup
                (Exs.cons
                  (Ex.var 3)
                  (Exs.cons
                    (Ex.var 4)
                    (Exs.cons
                      (Ex.ite (Ex.var 1) (Ex.call 1 (Exs.cons (Ex.var 5) (Exs.nil))) (Ex.var 5))
                      (Exs.nil))))))
            (Sms.nil))))
      (Sms.cons (Sm.ret (Ex.var 2)) (Sms.nil)))) }
noncomputable def f13 : Fn := { np := 3, nv := 8, body := (
  Sms.cons
    (Sm.asg 3 (Ex.lst (Exs.nil)))
    (Sms.cons
      (Sm.forS
        [4, 5]
        (It.val (Ex.call 2 (Exs.cons (Ex.var 0) (Exs.nil))))
        (Sms.cons
          (Sm.asg
            6
            (Ex.call
              5
              (Exs.cons
                (Ex.var 0)
                (Exs.cons (Ex.var 4) (Exs.cons (Ex.var 5) (Exs.cons (Ex.var 1) (Exs.nil)))))))
          (Sms.cons
            (Sm.ifS (Ex.isNone false (Ex.var 6)) (Sms.cons (Sm.ret (Ex.none)) (Sms.nil)) (Sms.nil))
            (Sms.cons
              (Sm.asg 7 (Ex.sliceV 0 (Ox.some (Ex.idxV 6 (Ex.int 0))) (Ox.some (Ex.idxV 6 (Ex.int 1)))))
              (Sms.cons
                (Sm.append
                  3
                  (Ex.tup
                    (Exs.cons
                      (Ex.var 4)
                      (Exs.cons
                        (Ex.var 5)
                        (Exs.cons
                          (Ex.ite (Ex.var 2) (Ex.call 1 (Exs.cons (Ex.var 7) (Exs.nil))) (Ex.var 7))
                          (Exs.nil))))))
                (Sms.nil))))))
      (Sms.cons (Sm.ret (Ex.var 3)) (Sms.nil)))) }
noncomputable def f14 : Fn := { np := 2, nv := 6, body := (
  Sms.cons
    (Sm.asg 2 (Ex.lst (Exs.nil)))
    (Sms.cons
      (Sm.forS
        [3, 4]
        (It.val (Ex.call 2 (Exs.cons (Ex.var 0) (Exs.nil))))
        (Sms.cons
          (Sm.asg
            5
            (Ex.call
              5
              (Exs.cons
                (Ex.var 0)
                (Exs.cons (Ex.var 3) (Exs.cons (Ex.var 4) (Exs.cons (Ex.var 1) (Exs.nil)))))))
          (Sms.cons
            (Sm.ifS (Ex.isNone false (Ex.var 5)) (Sms.cons (Sm.ret (Ex.none)) (Sms.nil)) (Sms.nil))
            (Sms.cons
              (Sm.append
                2
                (Ex.tup
                  (Exs.cons
                    (Ex.var 3)
                    (Exs.cons
                      (Ex.var 4)
                      (Exs.cons
                        (Ex.call
                          6
                          (Exs.cons
                            (Ex.var 0)
                            (Exs.cons (Ex.idxV 5 (Ex.int 0)) (Exs.cons (Ex.idxV 5 (Ex.int 1)) (Exs.nil)))))
                        (Exs.nil))))))
              (Sms.nil)))))
      (Sms.cons (Sm.ret (Ex.var 2)) (Sms.nil)))) }
noncomputable def f15 : Fn := { np := 4, nv := 8, body := (
  Sms.cons
    (Sm.asg 4 (Ex.lst (Exs.nil)))
    (Sms.cons
      (Sm.forS
        [5, 6]
        (It.val (Ex.call 2 (Exs.cons (Ex.var 0) (Exs.nil))))
        (Sms.cons
          (Sm.asg
            7
            (Ex.sliceV
              0
              (Ox.some (Ex.min (Ex.add (Ex.var 5) (Ex.var 1)) (Ex.var 6)))
              (Ox.some (Ex.min (Ex.add (Ex.var 5) (Ex.var 2)) (Ex.var 6)))))
          (Sms.cons
            (Sm.append
              4
              (Ex.tup
                (Exs.cons
                  (Ex.var 5)
                  (Exs.cons
                    (Ex.var 6)
                    (Exs.cons
                      (Ex.ite (Ex.var 3) (Ex.call 1 (Exs.cons (Ex.var 7) (Exs.nil))) (Ex.var 7))
                      (Exs.nil))))))
            (Sms.nil))))
      (Sms.cons (Sm.ret (Ex.var 4)) (Sms.nil)))) }
noncomputable def f16 : Fn := { np := 1, nv := 8, body := (
  Sms.cons
    (Sm.asg 1 (Ex.call 2 (Exs.cons (Ex.var 0) (Exs.nil))))
    (Sms.cons
      (Sm.asg 2 (Ex.lst (Exs.nil)))
      (Sms.cons
        (Sm.asg 3 (Ex.int 0))
        (Sms.cons
          (Sm.forS
            [4]
            (It.range (Ex.len (Ex.var 1)))
            (Sms.cons
              (Sm.unp [5, 6] (Ex.idxV 1 (Ex.var 4)))
              (Sms.cons
                (Sm.asg 7 (Ex.idxV 1 (Ex.sub (Ex.sub (Ex.len (Ex.var 1)) (Ex.int 1)) (Ex.var 4))))
                (Sms.cons
                  (Sm.extend 2 (Ex.sliceV 0 (Ox.some (Ex.var 3)) (Ox.some (Ex.var 5))))
                  (Sms.cons
                    (Sm.extend
                      2
                      (Ex.sliceV 0 (Ox.some (Ex.idxV 7 (Ex.int 0))) (Ox.some (Ex.idxV 7 (Ex.int 1)))))
                    (Sms.cons (Sm.asg 3 (Ex.var 6)) (Sms.nil)))))))
          (Sms.cons (Sm.ret (Ex.add (Ex.var 2) (Ex.sliceV 0 (Ox.some (Ex.var 3)) (Ox.none)))) (Sms.nil)))))) }
noncomputable def f17 : Fn := { np := 3, nv := 12, body := (
  Sms.cons
    (Sm.asg 3 (Ex.call 2 (Exs.cons (Ex.var 0) (Exs.nil))))
    (Sms.cons
      (Sm.asg
        6
        (Ex.comp
          [0]
          2
          (It.val (Ex.var 3))
          (Exs.nil)
          (Ex.sliceV 0 (Ox.some (Ex.var 12)) (Ox.some (Ex.var 13)))))
      (Sms.cons
        (Sm.asg 7 (Ex.listRange (Ex.len (Ex.var 3))))
        (Sms.cons
          (Sm.ifS (Ex.var 1) (Sms.cons (Sm.asg 7 (Ex.rev (Ex.var 7))) (Sms.nil)) (Sms.nil))
          (Sms.cons
            (Sm.asg 8 (Ex.dict))
            (Sms.cons
              (Sm.asg 9 (Ex.lst (Exs.nil)))
              (Sms.cons
                (Sm.forS
                  [10]
                  (It.val (Ex.var 7))
                  (Sms.cons
                    (Sm.ifS
                      (Ex.inn false (Ex.idxV 6 (Ex.var 10)) (Ex.var 9))
                      (Sms.cons (Sm.setIdx 8 (Ex.var 10) (Ex.bool true)) (Sms.nil))
                      (Sms.cons
                        (Sm.ifS
                          (Ex.var 2)
                          (Sms.cons (Sm.asg 9 (Ex.lst (Exs.cons (Ex.idxV 6 (Ex.var 10)) (Exs.nil)))) (Sms.nil))
                          (Sms.cons (Sm.append 9 (Ex.idxV 6 (Ex.var 10))) (Sms.nil)))
                        (Sms.nil)))
                    (Sms.nil)))
                (Sms.cons
                  (Sm.asg 11 (Ex.lst (Exs.nil)))
                  (Sms.cons
                    (Sm.forS
                      [10]
                      (It.range (Ex.len (Ex.var 3)))
                      (Sms.cons
                        (Sm.ifS
                          (Ex.inn true (Ex.var 10) (Ex.var 8))
                          (Sms.cons
                            (Sm.unp [4, 5] (Ex.idxV 3 (Ex.var 10)))
                            (Sms.cons
                              (Sm.extend
                                11
                                (Ex.sliceV 0 (Ox.some (Ex.var 4)) (Ox.some (Ex.add (Ex.var 5) (Ex.int 1)))))
                              (Sms.nil)))
                          (Sms.nil))
                        (Sms.nil)))
                    (Sms.cons
                      (Sm.ret (Ex.tup (Exs.cons (Ex.var 11) (Exs.cons (Ex.len (Ex.var 8)) (Exs.nil)))))
                      (Sms.nil))))))))))) }
noncomputable def f18 : Fn := { np := 2, nv := 2, body := (
  Sms.cons (Sm.ret (Ex.ite (Ex.isNil true 0) (Ex.mod (Ex.pop0 0) (Ex.var 1)) (Ex.int 0))) (Sms.nil)) }
noncomputable def f19 : Fn := { np := 1, nv := 1, body := (
  Sms.cons
    (Sm.ret
      (Ex.comp
        [0]
        1
        (It.range (Ex.call 18 (Exs.cons (Ex.var 0) (Exs.cons (Ex.int 6) (Exs.nil)))))
        (Exs.nil)
        (Ex.idx
          (Ex.lst
            (Exs.cons
              (Ex.int 97)
              (Exs.cons
                (Ex.int 66)
                (Exs.cons
                  (Ex.int 98)
                  (Exs.cons
                    (Ex.int 65)
                    (Exs.cons
                      (Ex.int 32)
                      (Exs.cons (Ex.int 49) (Exs.cons (Ex.int 50) (Exs.cons (Ex.int 45) (Exs.nil))))))))))
          (Ex.call 18 (Exs.cons (Ex.var 0) (Exs.cons (Ex.int 8) (Exs.nil)))))))
    (Sms.nil)) }
noncomputable def f20 : Fn := { np := 2, nv := 2, body := (
  Sms.cons
    (Sm.ret
      (Ex.comp
        [1]
        1
        (It.val (Ex.var 0))
        (Exs.nil)
        (Ex.ite
          (Ex.and (Ex.var 1) (Ex.chain (Cp.le) (Cp.le) (Ex.int 65) (Ex.var 2) (Ex.int 90)))
          (Ex.add (Ex.var 2) (Ex.int 32))
          (Ex.var 2))))
    (Sms.nil)) }
noncomputable def f21 : Fn := { np := 1, nv := 4, body := (
  Sms.cons
    (Sm.asgT [1, 2] (Exs.cons (Ex.lst (Exs.nil)) (Exs.cons (Ex.lst (Exs.nil)) (Exs.nil))))
    (Sms.cons
      (Sm.forS
        [3]
        (It.val (Ex.add (Ex.var 0) (Ex.lst (Exs.cons (Ex.int 32) (Exs.nil)))))
        (Sms.cons
          (Sm.ifS
            (Ex.and (Ex.cmp (Cp.eq) (Ex.var 3) (Ex.int 32)) (Ex.isNil true 2))
            (Sms.cons (Sm.append 1 (Ex.var 2)) (Sms.nil))
            (Sms.nil))
          (Sms.cons
            (Sm.asg
              2
              (Ex.ite
                (Ex.cmp (Cp.eq) (Ex.var 3) (Ex.int 32))
                (Ex.lst (Exs.nil))
                (Ex.add (Ex.var 2) (Ex.lst (Exs.cons (Ex.var 3) (Exs.nil))))))
            (Sms.nil))))
      (Sms.cons (Sm.ret (Ex.var 1)) (Sms.nil)))) }
noncomputable def f22 : Fn := { np := 1, nv := 4, body := (
  Sms.cons
    (Sm.asgT
      [1, 2]
      (Exs.cons
        (Ex.int 0)
        (Exs.cons
          (Ex.ite
            (Ex.cmp
              (Cp.eq)
              (Ex.sliceV 0 (Ox.none) (Ox.some (Ex.int 1)))
              (Ex.lst (Exs.cons (Ex.int 45) (Exs.nil))))
            (Ex.sliceV 0 (Ox.some (Ex.int 1)) (Ox.none))
            (Ex.var 0))
          (Exs.nil))))
    (Sms.cons
      (Sm.forS
        [3]
        (It.val (Ex.var 2))
        (Sms.cons
          (Sm.ifS
            (Ex.not (Ex.chain (Cp.le) (Cp.le) (Ex.int 48) (Ex.var 3) (Ex.int 57)))
            (Sms.cons (Sm.brk) (Sms.nil))
            (Sms.nil))
          (Sms.cons
            (Sm.asg 1 (Ex.sub (Ex.add (Ex.mul (Ex.var 1) (Ex.int 10)) (Ex.var 3)) (Ex.int 48)))
            (Sms.nil))))
      (Sms.cons
        (Sm.ret
          (Ex.ite
            (Ex.cmp
              (Cp.eq)
              (Ex.sliceV 0 (Ox.none) (Ox.some (Ex.int 1)))
              (Ex.lst (Exs.cons (Ex.int 45) (Exs.nil))))
            (Ex.sub (Ex.int 0) (Ex.var 1))
            (Ex.var 1)))
        (Sms.nil)))) }
noncomputable def f23 : Fn := { np := 5, nv := 7, body := (
  Sms.cons
    (Sm.ifS
      (Ex.cmp (Cp.eq) (Ex.var 1) (Ex.int 4))
      (Sms.cons
        (Sm.ret
          (Ex.call
            20
            (Exs.cons
              (Ex.sliceV 0 (Ox.some (Ex.idxV 3 (Ex.int 0))) (Ox.some (Ex.idxV 3 (Ex.int 1))))
              (Exs.cons (Ex.var 4) (Exs.nil)))))
        (Sms.nil))
      (Sms.nil))
    (Sms.cons
      (Sm.ifS
        (Ex.cmp (Cp.lt) (Ex.var 1) (Ex.int 2))
        (Sms.cons (Sm.ret (Ex.call 20 (Exs.cons (Ex.var 0) (Exs.cons (Ex.var 4) (Exs.nil))))) (Sms.nil))
        (Sms.nil))
      (Sms.cons
        (Sm.asg 5 (Ex.call 21 (Exs.cons (Ex.var 0) (Exs.nil))))
        (Sms.cons
          (Sm.ifS
            (Ex.cmp (Cp.lt) (Ex.len (Ex.var 5)) (Ex.abs (Ex.var 2)))
            (Sms.cons (Sm.ret (Ex.none)) (Sms.nil))
            (Sms.nil))
          (Sms.cons
            (Sm.asg
              6
              (Ex.ite
                (Ex.cmp (Cp.gt) (Ex.var 2) (Ex.int 0))
                (Ex.idxV 5 (Ex.sub (Ex.var 2) (Ex.int 1)))
                (Ex.idxV 5 (Ex.var 2))))
            (Sms.cons
              (Sm.ret
                (Ex.ite
                  (Ex.cmp (Cp.eq) (Ex.var 1) (Ex.int 2))
                  (Ex.call 20 (Exs.cons (Ex.var 6) (Exs.cons (Ex.var 4) (Exs.nil))))
                  (Ex.call 22 (Exs.cons (Ex.var 6) (Exs.nil)))))
              (Sms.nil))))))) }
noncomputable def f24 : Fn := { np := 2, nv := 6, body := (
  Sms.cons
    (Sm.asgT [2, 3] (Exs.cons (Ex.listRange (Ex.len (Ex.var 0))) (Exs.cons (Ex.lst (Exs.nil)) (Exs.nil))))
    (Sms.cons
      (Sm.whileS
        (Ex.isNil true 2)
        (Sms.cons
          (Sm.asg 4 (Ex.idxV 2 (Ex.int 0)))
          (Sms.cons
            (Sm.forS
              [5]
              (It.val (Ex.sliceV 2 (Ox.some (Ex.int 1)) (Ox.none)))
              (Sms.cons
                (Sm.ifS
                  (Ex.ite
                    (Ex.var 1)
                    (Ex.cmp (Cp.gt) (Ex.idxV 0 (Ex.var 5)) (Ex.idxV 0 (Ex.var 4)))
                    (Ex.cmp (Cp.lt) (Ex.idxV 0 (Ex.var 5)) (Ex.idxV 0 (Ex.var 4))))
                  (Sms.cons (Sm.asg 4 (Ex.var 5)) (Sms.nil))
                  (Sms.nil))
                (Sms.nil)))
            (Sms.cons (Sm.append 3 (Ex.var 4)) (Sms.cons (Sm.remove 2 (Ex.var 4)) (Sms.nil))))))
      (Sms.cons (Sm.ret (Ex.var 3)) (Sms.nil)))) }
noncomputable def f25 : Fn := { np := 2, nv := 5, body := (
  Sms.cons
    (Sm.asg 2 (Ex.lst (Exs.nil)))
    (Sms.cons
      (Sm.forS
        [3, 4]
        (It.enum (Ex.var 0))
        (Sms.cons
          (Sm.asg
            2
            (Ex.add
              (Ex.add (Ex.var 2) (Ex.var 4))
              (Ex.ite
                (Ex.or (Ex.cmp (Cp.lt) (Ex.var 3) (Ex.sub (Ex.len (Ex.var 0)) (Ex.int 1))) (Ex.var 1))
                (Ex.lst (Exs.cons (Ex.int 10) (Exs.nil)))
                (Ex.lst (Exs.nil)))))
          (Sms.nil)))
      (Sms.cons (Sm.ret (Ex.var 2)) (Sms.nil)))) }
noncomputable def f26 : Fn := { np := 1, nv := 5, body := (
  Sms.cons
    (Sm.asgT [1, 2] (Exs.cons (Ex.lst (Exs.nil)) (Exs.cons (Ex.bool false) (Exs.nil))))
    (Sms.cons
      (Sm.forS
        [3]
        (It.val (Ex.var 0))
        (Sms.cons
          (Sm.asg 4 (Ex.cmp (Cp.eq) (Ex.call 21 (Exs.cons (Ex.var 3) (Exs.nil))) (Ex.lst (Exs.nil))))
          (Sms.cons
            (Sm.ifS
              (Ex.and (Ex.var 2) (Ex.not (Ex.var 4)))
              (Sms.cons (Sm.appendL 1 3) (Sms.nil))
              (Sms.cons (Sm.appendN 1 (Ex.lst (Exs.cons (Ex.var 3) (Exs.nil)))) (Sms.nil)))
            (Sms.cons (Sm.asg 2 (Ex.not (Ex.var 4))) (Sms.nil)))))
      (Sms.cons (Sm.ret (Ex.var 1)) (Sms.nil)))) }
noncomputable def f27 : Fn := { np := 7, nv := 13, body := (
  Sms.cons
    (Sm.ifS
      (Ex.cmp (Cp.eq) (Ex.var 1) (Ex.int 1))
      (Sms.cons
        (Sm.asgC 7 (Ex.call 26 (Exs.cons (Ex.var 0) (Exs.nil))))
        (Sms.cons
          (Sm.asg
            9
            (Ex.comp
              []
              2
              (It.enum (Ex.var 7))
              (Exs.cons
                (Ex.cmp
                  (Cp.ne)
                  (Ex.call 21 (Exs.cons (Ex.idxV 14 (Ex.int 0)) (Exs.nil)))
                  (Ex.lst (Exs.nil)))
                (Exs.nil))
              (Ex.var 13)))
          (Sms.cons
            (Sm.asg
              10
              (Ex.comp
                [4, 7]
                1
                (It.val (Ex.var 9))
                (Exs.nil)
                (Ex.call
                  20
                  (Exs.cons
                    (Ex.call 25 (Exs.cons (Ex.idxV 7 (Ex.var 13)) (Exs.cons (Ex.bool false) (Exs.nil))))
                    (Exs.cons (Ex.var 4) (Exs.nil))))))
            (Sms.cons
              (Sm.asg
                11
                (Ex.comp
                  []
                  1
                  (It.val (Ex.var 7))
                  (Exs.nil)
                  (Ex.call 25 (Exs.cons (Ex.var 13) (Exs.cons (Ex.bool false) (Exs.nil))))))
              (Sms.cons
                (Sm.forS
                  [8, 12]
                  (It.zip (Ex.var 9) (Ex.call 24 (Exs.cons (Ex.var 10) (Exs.cons (Ex.var 5) (Exs.nil)))))
                  (Sms.cons
                    (Sm.setIdx
                      11
                      (Ex.var 8)
                      (Ex.call
                        25
                        (Exs.cons (Ex.idxV 7 (Ex.idxV 9 (Ex.var 12))) (Exs.cons (Ex.bool false) (Exs.nil)))))
                    (Sms.nil)))
                (Sms.cons
                  (Sm.ret (Ex.call 25 (Exs.cons (Ex.var 11) (Exs.cons (Ex.var 6) (Exs.nil)))))
                  (Sms.nil)))))))
      (Sms.nil))
    (Sms.cons
      (Sm.asg
        10
        (Ex.comp
          [4, 2, 3, 1]
          1
          (It.val (Ex.var 0))
          (Exs.nil)
          (Ex.call
            23
            (Exs.cons
              (Ex.var 13)
              (Exs.cons
                (Ex.var 1)
                (Exs.cons (Ex.var 2) (Exs.cons (Ex.var 3) (Exs.cons (Ex.var 4) (Exs.nil)))))))))
      (Sms.cons
        (Sm.ifS (Ex.inn false (Ex.none) (Ex.var 10)) (Sms.cons (Sm.ret (Ex.none)) (Sms.nil)) (Sms.nil))
        (Sms.cons
          (Sm.ret
            (Ex.call
              25
              (Exs.cons
                (Ex.comp
                  [0]
                  1
                  (It.val (Ex.call 24 (Exs.cons (Ex.var 10) (Exs.cons (Ex.var 5) (Exs.nil)))))
                  (Exs.nil)
                  (Ex.idxV 0 (Ex.var 13)))
                (Exs.cons (Ex.var 6) (Exs.nil)))))
          (Sms.nil))))) }
noncomputable def f28 : Fn := { np := 5, nv := 5, body := (
  Sms.cons
    (Sm.ifS
      (Ex.cmp (Cp.eq) (Ex.var 1) (Ex.int 0))
      (Sms.cons (Sm.ret (Ex.call 11 (Exs.cons (Ex.var 0) (Exs.cons (Ex.var 4) (Exs.nil))))) (Sms.nil))
      (Sms.nil))
    (Sms.cons
      (Sm.ifS
        (Ex.cmp (Cp.eq) (Ex.var 1) (Ex.int 1))
        (Sms.cons (Sm.ret (Ex.call 12 (Exs.cons (Ex.var 0) (Exs.cons (Ex.var 4) (Exs.nil))))) (Sms.nil))
        (Sms.nil))
      (Sms.cons
        (Sm.ifS
          (Ex.cmp (Cp.eq) (Ex.var 1) (Ex.int 4))
          (Sms.cons
            (Sm.ret
              (Ex.call
                15
                (Exs.cons
                  (Ex.var 0)
                  (Exs.cons
                    (Ex.idxV 3 (Ex.int 0))
                    (Exs.cons (Ex.idxV 3 (Ex.int 1)) (Exs.cons (Ex.var 4) (Exs.nil)))))))
            (Sms.nil))
          (Sms.nil))
        (Sms.cons
          (Sm.ret
            (Ex.ite
              (Ex.cmp (Cp.eq) (Ex.var 1) (Ex.int 2))
              (Ex.call 13 (Exs.cons (Ex.var 0) (Exs.cons (Ex.var 2) (Exs.cons (Ex.var 4) (Exs.nil)))))
              (Ex.call 14 (Exs.cons (Ex.var 0) (Exs.cons (Ex.var 2) (Exs.nil))))))
          (Sms.nil))))) }
noncomputable def f29 : Fn := { np := 3, nv := 5, body := (
  Sms.cons
    (Sm.asg 3 (Ex.lst (Exs.nil)))
    (Sms.cons
      (Sm.forS
        [4]
        (It.val (Ex.ite (Ex.var 1) (Ex.rev (Ex.var 0)) (Ex.var 0)))
        (Sms.cons
          (Sm.ifS
            (Ex.inn
              true
              (Ex.var 4)
              (Ex.ite (Ex.var 2) (Ex.sliceV 3 (Ox.some (Ex.neg (Ex.int 1))) (Ox.none)) (Ex.var 3)))
            (Sms.cons (Sm.append 3 (Ex.var 4)) (Sms.nil))
            (Sms.nil))
          (Sms.nil)))
      (Sms.cons (Sm.ret (Ex.ite (Ex.var 1) (Ex.rev (Ex.var 3)) (Ex.var 3))) (Sms.nil)))) }
noncomputable def f30 : Fn := { np := 1, nv := 19, body := (
  Sms.cons
    (Sm.asgC
      1
      (Ex.comp [] 1 (It.val (Ex.sliceV 0 (Ox.none) (Ox.some (Ex.int 50)))) (Exs.nil) (Ex.abs (Ex.var 19))))
    (Sms.cons
      (Sm.asgT
        [2, 3, 4]
        (Exs.cons
          (Ex.call 18 (Exs.cons (Ex.var 1) (Exs.cons (Ex.int 5) (Exs.nil))))
          (Exs.cons
            (Ex.cmp (Cp.eq) (Ex.call 18 (Exs.cons (Ex.var 1) (Exs.cons (Ex.int 2) (Exs.nil)))) (Ex.int 1))
            (Exs.cons
              (Ex.cmp
                (Cp.eq)
                (Ex.call 18 (Exs.cons (Ex.var 1) (Exs.cons (Ex.int 2) (Exs.nil))))
                (Ex.int 1))
              (Exs.nil)))))
      (Sms.cons
        (Sm.asgT
          [5, 6]
          (Exs.cons
            (Ex.idx
              (Ex.lst (Exs.cons (Ex.int 1) (Exs.cons (Ex.int 2) (Exs.cons (Ex.neg (Ex.int 1)) (Exs.nil)))))
              (Ex.call 18 (Exs.cons (Ex.var 1) (Exs.cons (Ex.int 3) (Exs.nil)))))
            (Exs.cons (Ex.call 18 (Exs.cons (Ex.var 1) (Exs.cons (Ex.int 3) (Exs.nil)))) (Exs.nil))))
        (Sms.cons
          (Sm.asg
            7
            (Ex.tup
              (Exs.cons
                (Ex.var 6)
                (Exs.cons
                  (Ex.add (Ex.var 6) (Ex.call 18 (Exs.cons (Ex.var 1) (Exs.cons (Ex.int 3) (Exs.nil)))))
                  (Exs.nil)))))
          (Sms.cons
            (Sm.asg
              8
              (Ex.comp
                [1]
                1
                (It.range
                  (Ex.add (Ex.int 1) (Ex.call 18 (Exs.cons (Ex.var 1) (Exs.cons (Ex.int 5) (Exs.nil))))))
                (Exs.nil)
                (Ex.call 19 (Exs.cons (Ex.var 1) (Exs.nil)))))
            (Sms.cons
              (Sm.asg
                9
                (Ex.or
                  (Ex.cmp
                    (Cp.gt)
                    (Ex.call 18 (Exs.cons (Ex.var 1) (Exs.cons (Ex.int 3) (Exs.nil))))
                    (Ex.int 0))
                  (Ex.cmp (Cp.eq) (Ex.idxV 8 (Ex.neg (Ex.int 1))) (Ex.lst (Exs.nil)))))
              (Sms.cons
                (Sm.asg 10 (Ex.call 25 (Exs.cons (Ex.var 8) (Exs.cons (Ex.var 9) (Exs.nil)))))
                (Sms.cons
                  (Sm.asg
                    11
                    (Ex.call
                      27
                      (Exs.cons
                        (Ex.var 8)
                        (Exs.cons
                          (Ex.var 2)
                          (Exs.cons
                            (Ex.var 5)
                            (Exs.cons
                              (Ex.var 7)
                              (Exs.cons (Ex.var 4) (Exs.cons (Ex.var 3) (Exs.cons (Ex.var 9) (Exs.nil))))))))))
                  (Sms.cons
                    (Sm.asg
                      12
                      (Ex.call
                        28
                        (Exs.cons
                          (Ex.var 10)
                          (Exs.cons
                            (Ex.var 2)
                            (Exs.cons (Ex.var 5) (Exs.cons (Ex.var 7) (Exs.cons (Ex.var 4) (Exs.nil))))))))
                    (Sms.cons
                      (Sm.ifS
                        (Ex.cmp (Cp.ne) (Ex.isNone false (Ex.var 12)) (Ex.isNone false (Ex.var 11)))
                        (Sms.cons (Sm.ret (Ex.bool false)) (Sms.nil))
                        (Sms.nil))
                      (Sms.cons
                        (Sm.ifS
                          (Ex.and
                            (Ex.isNone true (Ex.var 11))
                            (Ex.cmp
                              (Cp.ne)
                              (Ex.call
                                10
                                (Exs.cons (Ex.var 10) (Exs.cons (Ex.var 12) (Exs.cons (Ex.var 3) (Exs.nil)))))
                              (Ex.var 11)))
                          (Sms.cons (Sm.ret (Ex.bool false)) (Sms.nil))
                          (Sms.nil))
                        (Sms.cons
                          (Sm.ifS
                            (Ex.cmp
                              (Cp.ne)
                              (Ex.call 16 (Exs.cons (Ex.var 10) (Exs.nil)))
                              (Ex.call 25 (Exs.cons (Ex.rev (Ex.var 8)) (Exs.cons (Ex.var 9) (Exs.nil)))))
                            (Sms.cons (Sm.ret (Ex.bool false)) (Sms.nil))
                            (Sms.nil))
                          (Sms.cons
                            (Sm.asgT
                              [13, 14]
                              (Exs.cons
                                (Ex.cmp
                                  (Cp.eq)
                                  (Ex.call 18 (Exs.cons (Ex.var 1) (Exs.cons (Ex.int 2) (Exs.nil))))
                                  (Ex.int 1))
                                (Exs.cons
                                  (Ex.cmp
                                    (Cp.eq)
                                    (Ex.call 18 (Exs.cons (Ex.var 1) (Exs.cons (Ex.int 2) (Exs.nil))))
                                    (Ex.int 1))
                                  (Exs.nil))))
                            (Sms.cons
                              (Sm.asg
                                15
                                (Ex.call
                                  29
                                  (Exs.cons (Ex.var 8) (Exs.cons (Ex.var 13) (Exs.cons (Ex.var 14) (Exs.nil))))))
                              (Sms.cons
                                (Sm.unp
                                  [16, 17]
                                  (Ex.call
                                    17
                                    (Exs.cons (Ex.var 10) (Exs.cons (Ex.var 13) (Exs.cons (Ex.var 14) (Exs.nil))))))
                                (Sms.cons
                                  (Sm.asg
                                    18
                                    (Ex.and
                                      (Ex.not (Ex.var 13))
                                      (Ex.inn
                                        false
                                        (Ex.idxV 8 (Ex.neg (Ex.int 1)))
                                        (Ex.ite
                                          (Ex.var 14)
                                          (Ex.sliceV 8 (Ox.some (Ex.neg (Ex.int 2))) (Ox.some (Ex.neg (Ex.int 1))))
                                          (Ex.sliceV 8 (Ox.none) (Ox.some (Ex.neg (Ex.int 1))))))))
                                  (Sms.cons
                                    (Sm.ret
                                      (Ex.and
                                        (Ex.cmp
                                          (Cp.eq)
                                          (Ex.var 17)
                                          (Ex.sub (Ex.len (Ex.var 8)) (Ex.len (Ex.var 15))))
                                        (Ex.cmp
                                          (Cp.eq)
                                          (Ex.var 16)
                                          (Ex.call
                                            25
                                            (Exs.cons
                                              (Ex.var 15)
                                              (Exs.cons (Ex.or (Ex.var 9) (Ex.var 18)) (Exs.nil)))))))
                                    (Sms.nil)))))))))))))))))) }
noncomputable def fnL : List Fn := [f0, f1, f2, f3, f4, f5, f6, f7, f8, f9, f10, f11, f12, f13, f14, f15, f16, f17, f18, f19, f20, f21, f22, f23, f24, f25, f26, f27, f28, f29, f30]
noncomputable def tblE (i : Nat) : Option Fn := fnL[i]?
end Mini
end
section
open PySem PySem.W PyProof.Rows Mini
set_option maxRecDepth 100000
set_option maxHeartbeats 4000000
namespace Mini
set_option tactic.hygienic false
theorem tbl_map : (recsOf q0).map (fun d => trF (glbOf q0 csL) d.params d.body d.scope) = fnL.map some := by kernel_rfl
theorem tbl_eq : tblOf q0 csL = tblE := by
  funext i
  have h : ((recsOf q0).map (fun d => trF (glbOf q0 csL) d.params d.body d.scope))[i]? = (fnL.map some)[i]? := by rw [tbl_map]
  rw [List.getElem?_map, List.getElem?_map] at h
  unfold tblOf tblE
  cases e : (recsOf q0)[i]? with
  | none => rw [e] at h; cases e2 : fnL[i]? with
    | none => rfl
    | some f => rw [e2] at h; cases h
  | some d => rw [e] at h; cases e2 : fnL[i]? with
    | none => rw [e2] at h; cases h
    | some f => rw [e2] at h; simpa using h
end Mini
end
section
set_option autoImplicit false
namespace Mini
noncomputable def lawHd : Ex := match f30.body with | .cons (.asgC _ a) _ => a | _ => .none
noncomputable def lawTl : Sms := match f30.body with | .cons _ r => r | _ => .nil
noncomputable def PlainLaw : Prop := ∀ il : List Int, il.length ≤ 63 → ∃ dl stE, dl.length ≤ 63 ∧
  (ev (callF tblE 12) lawHd).val { v := .fro (.list (il.map D.int)) :: .unset :: List.replicate 17 .unset, dk := [] } = some (.own (dl.map D.int), { v := .fro (.list (il.map D.int)) :: .unset :: List.replicate 17 .unset, dk := [] }) ∧
  exs (callF tblE 12) lawTl { v := .fro (.list (il.map D.int)) :: .deck :: List.replicate 17 .unset, dk := dl } = some (.ret (.fro (.bool true)), stE)
end Mini
end
section
open PySem PySem.W PyProof.Rows Mini
set_option maxRecDepth 100000
set_option maxHeartbeats 8000000
set_option pp.maxSteps 3000
set_option pp.deepTerms false
namespace Mini
set_option tactic.hygienic false
theorem lawAOk (env : Env) : AOk 12 (callerA.deeper env) := ⟨rfl, by show 1 + claimMargin + 1 + 12 < recursionLimit; decide, by show 4 + 3 + 10 * 12 + 100 < cLine; decide⟩
theorem only_cell {names : List (Str × NameKind)} {d : Str} (h : names.filter (fun p => p.2 == .cell) = [(d, .cell)]) : ∀ x, names.lookup x = some .cell → x = d := by
  intro x e
  have hm : (x, NameKind.cell) ∈ names.filter (fun p => p.2 == .cell) := List.mem_filter.mpr ⟨mem_of_lookup e, rfl⟩
  rw [h] at hm
  simp at hm
  exact hm
theorem well_list {P : Params} {h : Heap} {a : Addr} {vs : List Value} {xs : List WData} (W : Well P h (.ref a) (.list xs)) (hl : h.IsList a vs.toArray) : h.get? a = some (seqObj "list" vs.toArray 0) := by
  cases W with
  | list g _ =>
    obtain ⟨o, h1, _, n, h2⟩ := hl
    rw [g] at h1
    cases h1
    simp only [Data.seq.injEq] at h2
    rw [← h2.1]; exact g
theorem final (PL : PlainLaw) : PySem.Challenge.rw_np0027_01.Holds := by
  w_on
  refine holds_law said0 fun said => ?_
  refine holds_open (q := q0) (loose := []) (Xt := fun s => xlAt q0 [] s && PySem.W.recOk (RowW.records PySem.Challenge.rw_np0027_01.row.toRowW) s) (XP := XL q0 []) (Yf := Hook.none.obs) (Ya := Hook.none.val) (YP := Hook.none.says) (N := 2254)
    left0 Hook.none.of Hook.none.keeps (fun s e => xl_of s (Bool.and_eq_true_iff.mp e).1) XL.keeps (by rfl) (by rfl) (by rfl) (fun s e => recFacts_of (Bool.and_eq_true_iff.mp e).2) (by rfl) said (by decide +kernel) ⟨rfl, rfl, rfl, rfl, rfl, by decide +kernel⟩ ?hw ?hc
  case hw => w_witness2
  intro w s₀ s₁ mg mb G Y fa o pm cd doc dV kV ho hd hcd hD hmg hg args vals as hpre hlay hrd hwl hlo
  have XG := (Ground.X G).1
  have V := (Ground.X G).2
  refine Ground.open G ?_
  intro T B D TE TW
  try (refine guard_noD D (by decide +kernel) ?_; clear D)
  obtain ⟨_, _, M⟩ := bmod_of_top T
  have TA := at_of_top T
  try (obtain ⟨_, _, he, B0⟩ := based_of_top T rfl hmg ho hd; have he' : cd = _ := he; subst he'; clear he)
  clear hmg
  wrow_args hpre hlay hrd hwl hlo
  refine enter_call ?_
  w_top on
  try refine codeAny_mono ?_ (fun _ _ g => GoodW.toG g)
  have K0 := below_caller (Top.heap T)
  w_call any ho hd hcd hD T F
  clear hd TA
  k_drop
  rename Fr _ _ _ _ => F
  rename News _ _ _ _ => N
  rename Well _ _ _ _ => W1
  rename IntsAre _ _ => hI
  rename Heap.IsList _ _ _ => hL
  rename Shared.gens _ = _ => hgens
  rename ¬ (63 < _) => h63
  rename List Int => il
  obtain ⟨dl, stE, hdl, r0, r1⟩ := PL il (by (first | lia | omega))
  rw [← tbl_eq] at r0 r1
  refine wpAny_mono (law_run (k := 12) (E := fun _ _ => False) (g := glbOf q0 csL) (tbl := tblOf q0 csL) (xs := "script") (a0 := lawHd) (smr := lawTl) (dl := dl) (stE := stE) (lawAOk _) (gnd_of T okB okC) (sys_of T) (fnTr_of T ok1 ok2) (vr := ["way", "is_reversed", "folds", "number", "first", "span", "rows", "has_end", "codes", "due", "records", "is_last", "is_next", "left", "told_here", "many", "is_gone"])
    ⟨rfl, rfl, rfl, rfl, by kernel_rfl, by decide +kernel, by kernel_rfl, by kernel_rfl, only_cell (by kernel_rfl), by kernel_rfl⟩ F.keep F.ns ?hm (N _ (List.mem_cons_self ..)).1 ?hoc (well_list W1 hL) hI ?hlen hdl ?t0 ?t1 r0 r1) (fun fl s' h' => ?post) fun _ _ e => e.elim
  case hm => kernel_rfl
  case hoc => assumption
  case hlen => first | exact Nat.le_of_not_lt h63 | (first | lia | omega)
  case t0 => kernel_rfl
  case t1 => kernel_rfl
  case post =>
    obtain ⟨rfl, hk, ho, hge⟩ := h'
    refine ⟨.inl ⟨.bool true, .bool true, [], rfl, fun _ => rfl, .bool true, ?pp, fun _ => ⟨List.nodup_nil, fun a q => (nomatch q)⟩⟩, hk, ho, hge.trans hgens⟩
    first | kernel_rfl | (show (_ : Bool) = true; simp)
end Mini
end
section
set_option autoImplicit false
set_option maxRecDepth 10000
namespace Mini
set_option tactic.hygienic false
theorem f0_eq : f0 = ⟨1, 1, (Sms.cons (Sm.ifS (Ex.or (Ex.chain Cp.le Cp.le (Ex.int 65) (Ex.var 0) (Ex.int 90)) (Ex.and (Ex.chain Cp.le Cp.le (Ex.int 192) (Ex.var 0) (Ex.int 222)) (Ex.cmp Cp.ne (Ex.var 0) (Ex.int 215)))) (Sms.cons (Sm.ret (Ex.add (Ex.var 0) (Ex.int 32))) Sms.nil) Sms.nil) (Sms.cons (Sm.ret (Ex.var 0)) Sms.nil))⟩ := rfl
noncomputable def f1_e0 : Ex := (Ex.call 0 (Exs.cons (Ex.var 1) Exs.nil))
theorem f1_eq : f1 = ⟨1, 1, (Sms.cons (Sm.ret (Ex.comp [] 1 (It.val (Ex.var 0)) Exs.nil f1_e0)) Sms.nil)⟩ := rfl
noncomputable def f2_b0 : Sms := (Sms.cons (Sm.ifS (Ex.cmp Cp.eq (Ex.idxV 0 (Ex.var 3)) (Ex.int 10)) (Sms.cons (Sm.append 1 (Ex.tup (Exs.cons (Ex.var 2) (Exs.cons (Ex.var 3) Exs.nil)))) (Sms.cons (Sm.asg 2 (Ex.add (Ex.var 3) (Ex.int 1))) Sms.nil)) Sms.nil) Sms.nil)
theorem f2_eq : f2 = ⟨1, 4, (Sms.cons (Sm.asg 1 (Ex.lst Exs.nil)) (Sms.cons (Sm.asg 2 (Ex.int 0)) (Sms.cons (Sm.forS [3] (It.range (Ex.len (Ex.var 0))) f2_b0) (Sms.cons (Sm.ifS (Ex.cmp Cp.lt (Ex.var 2) (Ex.len (Ex.var 0))) (Sms.cons (Sm.append 1 (Ex.tup (Exs.cons (Ex.var 2) (Exs.cons (Ex.len (Ex.var 0)) Exs.nil)))) Sms.nil) Sms.nil) (Sms.cons (Sm.ret (Ex.var 1)) Sms.nil)))))⟩ := rfl
theorem f3_eq : f3 = ⟨2, 2, (Sms.cons (Sm.ret (Ex.or (Ex.cmp Cp.eq (Ex.idxV 0 (Ex.var 1)) (Ex.int 32)) (Ex.cmp Cp.eq (Ex.idxV 0 (Ex.var 1)) (Ex.int 9)))) Sms.nil)⟩ := rfl
noncomputable def f4_b0 : Sms := (Sms.cons (Sm.asg 4 (Ex.add (Ex.var 4) (Ex.int 1))) Sms.nil)
noncomputable def f4_t0 : Ex := (Ex.and (Ex.cmp Cp.lt (Ex.var 4) (Ex.var 2)) (Ex.call 3 (Exs.cons (Ex.var 0) (Exs.cons (Ex.var 4) Exs.nil))))
noncomputable def f4_b1 : Sms := (Sms.cons (Sm.asg 4 (Ex.add (Ex.var 4) (Ex.int 1))) Sms.nil)
noncomputable def f4_t1 : Ex := (Ex.and (Ex.cmp Cp.lt (Ex.var 4) (Ex.var 2)) (Ex.not (Ex.call 3 (Exs.cons (Ex.var 0) (Exs.cons (Ex.var 4) Exs.nil)))))
noncomputable def f4_b2 : Sms := (Sms.cons (Sm.whileS f4_t0 f4_b0) (Sms.cons (Sm.asg 5 (Ex.var 4)) (Sms.cons (Sm.whileS f4_t1 f4_b1) (Sms.cons (Sm.ifS (Ex.cmp Cp.gt (Ex.var 4) (Ex.var 5)) (Sms.cons (Sm.append 3 (Ex.tup (Exs.cons (Ex.var 5) (Exs.cons (Ex.var 4) Exs.nil)))) Sms.nil) Sms.nil) Sms.nil))))
noncomputable def f4_t2 : Ex := (Ex.cmp Cp.lt (Ex.var 4) (Ex.var 2))
theorem f4_eq : f4 = ⟨3, 6, (Sms.cons (Sm.asg 3 (Ex.lst Exs.nil)) (Sms.cons (Sm.asg 4 (Ex.var 1)) (Sms.cons (Sm.whileS f4_t2 f4_b2) (Sms.cons (Sm.ret (Ex.var 3)) Sms.nil))))⟩ := rfl
theorem f5_eq : f5 = ⟨4, 6, (Sms.cons (Sm.asg 4 (Ex.call 4 (Exs.cons (Ex.var 0) (Exs.cons (Ex.var 1) (Exs.cons (Ex.var 2) Exs.nil))))) (Sms.cons (Sm.asg 5 (Ex.ite (Ex.cmp Cp.gt (Ex.var 3) (Ex.int 0)) (Ex.sub (Ex.var 3) (Ex.int 1)) (Ex.add (Ex.len (Ex.var 4)) (Ex.var 3)))) (Sms.cons (Sm.ret (Ex.ite (Ex.chain Cp.le Cp.lt (Ex.int 0) (Ex.var 5) (Ex.len (Ex.var 4))) (Ex.idxV 4 (Ex.var 5)) Ex.none)) Sms.nil)))⟩ := rfl
noncomputable def f6_b0 : Sms := (Sms.cons (Sm.asg 5 (Ex.sub (Ex.add (Ex.mul (Ex.int 10) (Ex.var 5)) (Ex.idxV 0 (Ex.var 3))) (Ex.int 48))) (Sms.cons (Sm.asg 3 (Ex.add (Ex.var 3) (Ex.int 1))) Sms.nil))
noncomputable def f6_t0 : Ex := (Ex.and (Ex.cmp Cp.lt (Ex.var 3) (Ex.var 2)) (Ex.chain Cp.le Cp.le (Ex.int 48) (Ex.idxV 0 (Ex.var 3)) (Ex.int 57)))
theorem f6_eq : f6 = ⟨3, 6, (Sms.cons (Sm.asg 3 (Ex.var 1)) (Sms.cons (Sm.asg 4 (Ex.and (Ex.cmp Cp.lt (Ex.var 3) (Ex.var 2)) (Ex.cmp Cp.eq (Ex.idxV 0 (Ex.var 3)) (Ex.int 45)))) (Sms.cons (Sm.ifS (Ex.var 4) (Sms.cons (Sm.asg 3 (Ex.add (Ex.var 3) (Ex.int 1))) Sms.nil) Sms.nil) (Sms.cons (Sm.asg 5 (Ex.int 0)) (Sms.cons (Sm.whileS f6_t0 f6_b0) (Sms.cons (Sm.ret (Ex.ite (Ex.var 4) (Ex.sub (Ex.int 0) (Ex.var 5)) (Ex.var 5))) Sms.nil))))))⟩ := rfl
noncomputable def f7_b0 : Sms := (Sms.cons (Sm.ifS (Ex.and (Ex.cmp Cp.lt (Ex.var 2) (Ex.var 3)) (Ex.cmp Cp.gt (Ex.len (Ex.call 4 (Exs.cons (Ex.var 0) (Exs.cons (Ex.var 2) (Exs.cons (Ex.var 3) Exs.nil))))) (Ex.int 0))) (Sms.cons (Sm.ifS (Ex.and (Ex.cmp Cp.gt (Ex.len (Ex.var 1)) (Ex.int 0)) (Ex.cmp Cp.eq (Ex.idx (Ex.idxV 1 (Ex.sub (Ex.len (Ex.var 1)) (Ex.int 1))) (Ex.int 1)) (Ex.sub (Ex.var 2) (Ex.int 1)))) (Sms.cons (Sm.asg 2 (Ex.idx (Ex.pop 1) (Ex.int 0))) Sms.nil) Sms.nil) (Sms.cons (Sm.append 1 (Ex.tup (Exs.cons (Ex.var 2) (Exs.cons (Ex.var 3) Exs.nil)))) Sms.nil)) Sms.nil) Sms.nil)
theorem f7_eq : f7 = ⟨1, 4, (Sms.cons (Sm.asg 1 (Ex.lst Exs.nil)) (Sms.cons (Sm.forS [2, 3] (It.val (Ex.call 2 (Exs.cons (Ex.var 0) Exs.nil))) f7_b0) (Sms.cons (Sm.ret (Ex.var 1)) Sms.nil)))⟩ := rfl
theorem f8_eq : f8 = ⟨2, 2, (Sms.cons (Sm.ret (Ex.sorted 9 (Ex.var 0) (Ex.var 1))) Sms.nil)⟩ := rfl
theorem f9_eq : f9 = ⟨1, 1, (Sms.cons (Sm.ret (Ex.idxV 0 (Ex.int 2))) Sms.nil)⟩ := rfl
noncomputable def f10_b0 : Sms := (Sms.cons (Sm.unp [7, 8, 9] (Ex.idxV 1 (Ex.var 6))) (Sms.cons (Sm.extend 4 (Ex.sliceV 0 (Ox.some (Ex.var 5)) (Ox.some (Ex.var 7)))) (Sms.cons (Sm.extend 4 (Ex.sliceV 0 (Ox.some (Ex.idx (Ex.idxV 3 (Ex.var 6)) (Ex.int 0))) (Ox.some (Ex.idx (Ex.idxV 3 (Ex.var 6)) (Ex.int 1))))) (Sms.cons (Sm.asg 5 (Ex.var 8)) Sms.nil))))
theorem f10_eq : f10 = ⟨3, 10, (Sms.cons (Sm.asg 3 (Ex.call 8 (Exs.cons (Ex.var 1) (Exs.cons (Ex.var 2) Exs.nil)))) (Sms.cons (Sm.asg 4 (Ex.lst Exs.nil)) (Sms.cons (Sm.asg 5 (Ex.int 0)) (Sms.cons (Sm.forS [6] (It.range (Ex.len (Ex.var 1))) f10_b0) (Sms.cons (Sm.ret (Ex.add (Ex.var 4) (Ex.sliceV 0 (Ox.some (Ex.var 5)) Ox.none))) Sms.nil)))))⟩ := rfl
noncomputable def f11_b0 : Sms := (Sms.cons (Sm.asg 5 (Ex.sliceV 0 (Ox.some (Ex.var 3)) (Ox.some (Ex.var 4)))) (Sms.cons (Sm.append 2 (Ex.tup (Exs.cons (Ex.var 3) (Exs.cons (Ex.var 4) (Exs.cons (Ex.ite (Ex.var 1) (Ex.call 1 (Exs.cons (Ex.var 5) Exs.nil)) (Ex.var 5)) Exs.nil))))) Sms.nil))
theorem f11_eq : f11 = ⟨2, 6, (Sms.cons (Sm.asg 2 (Ex.lst Exs.nil)) (Sms.cons (Sm.forS [3, 4] (It.val (Ex.call 2 (Exs.cons (Ex.var 0) Exs.nil))) f11_b0) (Sms.cons (Sm.ret (Ex.var 2)) Sms.nil)))⟩ := rfl
noncomputable def f12_b0 : Sms := (Sms.cons (Sm.asg 5 (Ex.sliceV 0 (Ox.some (Ex.var 3)) (Ox.some (Ex.var 4)))) (Sms.cons (Sm.append 2 (Ex.tup (Exs.cons (Ex.var 3) (Exs.cons (Ex.var 4) (Exs.cons (Ex.ite (Ex.var 1) (Ex.call 1 (Exs.cons (Ex.var 5) Exs.nil)) (Ex.var 5)) Exs.nil))))) Sms.nil))
theorem f12_eq : f12 = ⟨2, 6, (Sms.cons (Sm.asg 2 (Ex.lst Exs.nil)) (Sms.cons (Sm.forS [3, 4] (It.val (Ex.call 7 (Exs.cons (Ex.var 0) Exs.nil))) f12_b0) (Sms.cons (Sm.ret (Ex.var 2)) Sms.nil)))⟩ := rfl
noncomputable def f13_b0 : Sms := (Sms.cons (Sm.asg 6 (Ex.call 5 (Exs.cons (Ex.var 0) (Exs.cons (Ex.var 4) (Exs.cons (Ex.var 5) (Exs.cons (Ex.var 1) Exs.nil)))))) (Sms.cons (Sm.ifS (Ex.isNone false (Ex.var 6)) (Sms.cons (Sm.ret Ex.none) Sms.nil) Sms.nil) (Sms.cons (Sm.asg 7 (Ex.sliceV 0 (Ox.some (Ex.idxV 6 (Ex.int 0))) (Ox.some (Ex.idxV 6 (Ex.int 1))))) (Sms.cons (Sm.append 3 (Ex.tup (Exs.cons (Ex.var 4) (Exs.cons (Ex.var 5) (Exs.cons (Ex.ite (Ex.var 2) (Ex.call 1 (Exs.cons (Ex.var 7) Exs.nil)) (Ex.var 7)) Exs.nil))))) Sms.nil))))
theorem f13_eq : f13 = ⟨3, 8, (Sms.cons (Sm.asg 3 (Ex.lst Exs.nil)) (Sms.cons (Sm.forS [4, 5] (It.val (Ex.call 2 (Exs.cons (Ex.var 0) Exs.nil))) f13_b0) (Sms.cons (Sm.ret (Ex.var 3)) Sms.nil)))⟩ := rfl
noncomputable def f14_b0 : Sms := (Sms.cons (Sm.asg 5 (Ex.call 5 (Exs.cons (Ex.var 0) (Exs.cons (Ex.var 3) (Exs.cons (Ex.var 4) (Exs.cons (Ex.var 1) Exs.nil)))))) (Sms.cons (Sm.ifS (Ex.isNone false (Ex.var 5)) (Sms.cons (Sm.ret Ex.none) Sms.nil) Sms.nil) (Sms.cons (Sm.append 2 (Ex.tup (Exs.cons (Ex.var 3) (Exs.cons (Ex.var 4) (Exs.cons (Ex.call 6 (Exs.cons (Ex.var 0) (Exs.cons (Ex.idxV 5 (Ex.int 0)) (Exs.cons (Ex.idxV 5 (Ex.int 1)) Exs.nil)))) Exs.nil))))) Sms.nil)))
theorem f14_eq : f14 = ⟨2, 6, (Sms.cons (Sm.asg 2 (Ex.lst Exs.nil)) (Sms.cons (Sm.forS [3, 4] (It.val (Ex.call 2 (Exs.cons (Ex.var 0) Exs.nil))) f14_b0) (Sms.cons (Sm.ret (Ex.var 2)) Sms.nil)))⟩ := rfl
noncomputable def f15_b0 : Sms := (Sms.cons (Sm.asg 7 (Ex.sliceV 0 (Ox.some (Ex.min (Ex.add (Ex.var 5) (Ex.var 1)) (Ex.var 6))) (Ox.some (Ex.min (Ex.add (Ex.var 5) (Ex.var 2)) (Ex.var 6))))) (Sms.cons (Sm.append 4 (Ex.tup (Exs.cons (Ex.var 5) (Exs.cons (Ex.var 6) (Exs.cons (Ex.ite (Ex.var 3) (Ex.call 1 (Exs.cons (Ex.var 7) Exs.nil)) (Ex.var 7)) Exs.nil))))) Sms.nil))
theorem f15_eq : f15 = ⟨4, 8, (Sms.cons (Sm.asg 4 (Ex.lst Exs.nil)) (Sms.cons (Sm.forS [5, 6] (It.val (Ex.call 2 (Exs.cons (Ex.var 0) Exs.nil))) f15_b0) (Sms.cons (Sm.ret (Ex.var 4)) Sms.nil)))⟩ := rfl
noncomputable def f16_b0 : Sms := (Sms.cons (Sm.unp [5, 6] (Ex.idxV 1 (Ex.var 4))) (Sms.cons (Sm.asg 7 (Ex.idxV 1 (Ex.sub (Ex.sub (Ex.len (Ex.var 1)) (Ex.int 1)) (Ex.var 4)))) (Sms.cons (Sm.extend 2 (Ex.sliceV 0 (Ox.some (Ex.var 3)) (Ox.some (Ex.var 5)))) (Sms.cons (Sm.extend 2 (Ex.sliceV 0 (Ox.some (Ex.idxV 7 (Ex.int 0))) (Ox.some (Ex.idxV 7 (Ex.int 1))))) (Sms.cons (Sm.asg 3 (Ex.var 6)) Sms.nil)))))
theorem f16_eq : f16 = ⟨1, 8, (Sms.cons (Sm.asg 1 (Ex.call 2 (Exs.cons (Ex.var 0) Exs.nil))) (Sms.cons (Sm.asg 2 (Ex.lst Exs.nil)) (Sms.cons (Sm.asg 3 (Ex.int 0)) (Sms.cons (Sm.forS [4] (It.range (Ex.len (Ex.var 1))) f16_b0) (Sms.cons (Sm.ret (Ex.add (Ex.var 2) (Ex.sliceV 0 (Ox.some (Ex.var 3)) Ox.none))) Sms.nil)))))⟩ := rfl
noncomputable def f17_e0 : Ex := (Ex.sliceV 0 (Ox.some (Ex.var 12)) (Ox.some (Ex.var 13)))
noncomputable def f17_b0 : Sms := (Sms.cons (Sm.ifS (Ex.inn false (Ex.idxV 6 (Ex.var 10)) (Ex.var 9)) (Sms.cons (Sm.setIdx 8 (Ex.var 10) (Ex.bool true)) Sms.nil) (Sms.cons (Sm.ifS (Ex.var 2) (Sms.cons (Sm.asg 9 (Ex.lst (Exs.cons (Ex.idxV 6 (Ex.var 10)) Exs.nil))) Sms.nil) (Sms.cons (Sm.append 9 (Ex.idxV 6 (Ex.var 10))) Sms.nil)) Sms.nil)) Sms.nil)
noncomputable def f17_b1 : Sms := (Sms.cons (Sm.ifS (Ex.inn true (Ex.var 10) (Ex.var 8)) (Sms.cons (Sm.unp [4, 5] (Ex.idxV 3 (Ex.var 10))) (Sms.cons (Sm.extend 11 (Ex.sliceV 0 (Ox.some (Ex.var 4)) (Ox.some (Ex.add (Ex.var 5) (Ex.int 1))))) Sms.nil)) Sms.nil) Sms.nil)
theorem f17_eq : f17 = ⟨3, 12, (Sms.cons (Sm.asg 3 (Ex.call 2 (Exs.cons (Ex.var 0) Exs.nil))) (Sms.cons (Sm.asg 6 (Ex.comp [0] 2 (It.val (Ex.var 3)) Exs.nil f17_e0)) (Sms.cons (Sm.asg 7 (Ex.listRange (Ex.len (Ex.var 3)))) (Sms.cons (Sm.ifS (Ex.var 1) (Sms.cons (Sm.asg 7 (Ex.rev (Ex.var 7))) Sms.nil) Sms.nil) (Sms.cons (Sm.asg 8 Ex.dict) (Sms.cons (Sm.asg 9 (Ex.lst Exs.nil)) (Sms.cons (Sm.forS [10] (It.val (Ex.var 7)) f17_b0) (Sms.cons (Sm.asg 11 (Ex.lst Exs.nil)) (Sms.cons (Sm.forS [10] (It.range (Ex.len (Ex.var 3))) f17_b1) (Sms.cons (Sm.ret (Ex.tup (Exs.cons (Ex.var 11) (Exs.cons (Ex.len (Ex.var 8)) Exs.nil)))) Sms.nil))))))))))⟩ := rfl
theorem f18_eq : f18 = ⟨2, 2, (Sms.cons (Sm.ret (Ex.ite (Ex.isNil true 0) (Ex.mod (Ex.pop0 0) (Ex.var 1)) (Ex.int 0))) Sms.nil)⟩ := rfl
noncomputable def f19_e0 : Ex := (Ex.idx (Ex.lst (Exs.cons (Ex.int 97) (Exs.cons (Ex.int 66) (Exs.cons (Ex.int 98) (Exs.cons (Ex.int 65) (Exs.cons (Ex.int 32) (Exs.cons (Ex.int 49) (Exs.cons (Ex.int 50) (Exs.cons (Ex.int 45) Exs.nil))))))))) (Ex.call 18 (Exs.cons (Ex.var 0) (Exs.cons (Ex.int 8) Exs.nil))))
theorem f19_eq : f19 = ⟨1, 1, (Sms.cons (Sm.ret (Ex.comp [0] 1 (It.range (Ex.call 18 (Exs.cons (Ex.var 0) (Exs.cons (Ex.int 6) Exs.nil)))) Exs.nil f19_e0)) Sms.nil)⟩ := rfl
noncomputable def f20_e0 : Ex := (Ex.ite (Ex.and (Ex.var 1) (Ex.chain Cp.le Cp.le (Ex.int 65) (Ex.var 2) (Ex.int 90))) (Ex.add (Ex.var 2) (Ex.int 32)) (Ex.var 2))
theorem f20_eq : f20 = ⟨2, 2, (Sms.cons (Sm.ret (Ex.comp [1] 1 (It.val (Ex.var 0)) Exs.nil f20_e0)) Sms.nil)⟩ := rfl
noncomputable def f21_b0 : Sms := (Sms.cons (Sm.ifS (Ex.and (Ex.cmp Cp.eq (Ex.var 3) (Ex.int 32)) (Ex.isNil true 2)) (Sms.cons (Sm.append 1 (Ex.var 2)) Sms.nil) Sms.nil) (Sms.cons (Sm.asg 2 (Ex.ite (Ex.cmp Cp.eq (Ex.var 3) (Ex.int 32)) (Ex.lst Exs.nil) (Ex.add (Ex.var 2) (Ex.lst (Exs.cons (Ex.var 3) Exs.nil))))) Sms.nil))
theorem f21_eq : f21 = ⟨1, 4, (Sms.cons (Sm.asgT [1, 2] (Exs.cons (Ex.lst Exs.nil) (Exs.cons (Ex.lst Exs.nil) Exs.nil))) (Sms.cons (Sm.forS [3] (It.val (Ex.add (Ex.var 0) (Ex.lst (Exs.cons (Ex.int 32) Exs.nil)))) f21_b0) (Sms.cons (Sm.ret (Ex.var 1)) Sms.nil)))⟩ := rfl
noncomputable def f22_b0 : Sms := (Sms.cons (Sm.ifS (Ex.not (Ex.chain Cp.le Cp.le (Ex.int 48) (Ex.var 3) (Ex.int 57))) (Sms.cons Sm.brk Sms.nil) Sms.nil) (Sms.cons (Sm.asg 1 (Ex.sub (Ex.add (Ex.mul (Ex.var 1) (Ex.int 10)) (Ex.var 3)) (Ex.int 48))) Sms.nil))
theorem f22_eq : f22 = ⟨1, 4, (Sms.cons (Sm.asgT [1, 2] (Exs.cons (Ex.int 0) (Exs.cons (Ex.ite (Ex.cmp Cp.eq (Ex.sliceV 0 Ox.none (Ox.some (Ex.int 1))) (Ex.lst (Exs.cons (Ex.int 45) Exs.nil))) (Ex.sliceV 0 (Ox.some (Ex.int 1)) Ox.none) (Ex.var 0)) Exs.nil))) (Sms.cons (Sm.forS [3] (It.val (Ex.var 2)) f22_b0) (Sms.cons (Sm.ret (Ex.ite (Ex.cmp Cp.eq (Ex.sliceV 0 Ox.none (Ox.some (Ex.int 1))) (Ex.lst (Exs.cons (Ex.int 45) Exs.nil))) (Ex.sub (Ex.int 0) (Ex.var 1)) (Ex.var 1))) Sms.nil)))⟩ := rfl
theorem f23_eq : f23 = ⟨5, 7, (Sms.cons (Sm.ifS (Ex.cmp Cp.eq (Ex.var 1) (Ex.int 4)) (Sms.cons (Sm.ret (Ex.call 20 (Exs.cons (Ex.sliceV 0 (Ox.some (Ex.idxV 3 (Ex.int 0))) (Ox.some (Ex.idxV 3 (Ex.int 1)))) (Exs.cons (Ex.var 4) Exs.nil)))) Sms.nil) Sms.nil) (Sms.cons (Sm.ifS (Ex.cmp Cp.lt (Ex.var 1) (Ex.int 2)) (Sms.cons (Sm.ret (Ex.call 20 (Exs.cons (Ex.var 0) (Exs.cons (Ex.var 4) Exs.nil)))) Sms.nil) Sms.nil) (Sms.cons (Sm.asg 5 (Ex.call 21 (Exs.cons (Ex.var 0) Exs.nil))) (Sms.cons (Sm.ifS (Ex.cmp Cp.lt (Ex.len (Ex.var 5)) (Ex.abs (Ex.var 2))) (Sms.cons (Sm.ret Ex.none) Sms.nil) Sms.nil) (Sms.cons (Sm.asg 6 (Ex.ite (Ex.cmp Cp.gt (Ex.var 2) (Ex.int 0)) (Ex.idxV 5 (Ex.sub (Ex.var 2) (Ex.int 1))) (Ex.idxV 5 (Ex.var 2)))) (Sms.cons (Sm.ret (Ex.ite (Ex.cmp Cp.eq (Ex.var 1) (Ex.int 2)) (Ex.call 20 (Exs.cons (Ex.var 6) (Exs.cons (Ex.var 4) Exs.nil))) (Ex.call 22 (Exs.cons (Ex.var 6) Exs.nil)))) Sms.nil))))))⟩ := rfl
noncomputable def f24_b0 : Sms := (Sms.cons (Sm.ifS (Ex.ite (Ex.var 1) (Ex.cmp Cp.gt (Ex.idxV 0 (Ex.var 5)) (Ex.idxV 0 (Ex.var 4))) (Ex.cmp Cp.lt (Ex.idxV 0 (Ex.var 5)) (Ex.idxV 0 (Ex.var 4)))) (Sms.cons (Sm.asg 4 (Ex.var 5)) Sms.nil) Sms.nil) Sms.nil)
noncomputable def f24_b1 : Sms := (Sms.cons (Sm.asg 4 (Ex.idxV 2 (Ex.int 0))) (Sms.cons (Sm.forS [5] (It.val (Ex.sliceV 2 (Ox.some (Ex.int 1)) Ox.none)) f24_b0) (Sms.cons (Sm.append 3 (Ex.var 4)) (Sms.cons (Sm.remove 2 (Ex.var 4)) Sms.nil))))
noncomputable def f24_t0 : Ex := (Ex.isNil true 2)
theorem f24_eq : f24 = ⟨2, 6, (Sms.cons (Sm.asgT [2, 3] (Exs.cons (Ex.listRange (Ex.len (Ex.var 0))) (Exs.cons (Ex.lst Exs.nil) Exs.nil))) (Sms.cons (Sm.whileS f24_t0 f24_b1) (Sms.cons (Sm.ret (Ex.var 3)) Sms.nil)))⟩ := rfl
noncomputable def f25_b0 : Sms := (Sms.cons (Sm.asg 2 (Ex.add (Ex.add (Ex.var 2) (Ex.var 4)) (Ex.ite (Ex.or (Ex.cmp Cp.lt (Ex.var 3) (Ex.sub (Ex.len (Ex.var 0)) (Ex.int 1))) (Ex.var 1)) (Ex.lst (Exs.cons (Ex.int 10) Exs.nil)) (Ex.lst Exs.nil)))) Sms.nil)
theorem f25_eq : f25 = ⟨2, 5, (Sms.cons (Sm.asg 2 (Ex.lst Exs.nil)) (Sms.cons (Sm.forS [3, 4] (It.enum (Ex.var 0)) f25_b0) (Sms.cons (Sm.ret (Ex.var 2)) Sms.nil)))⟩ := rfl
noncomputable def f26_b0 : Sms := (Sms.cons (Sm.asg 4 (Ex.cmp Cp.eq (Ex.call 21 (Exs.cons (Ex.var 3) Exs.nil)) (Ex.lst Exs.nil))) (Sms.cons (Sm.ifS (Ex.and (Ex.var 2) (Ex.not (Ex.var 4))) (Sms.cons (Sm.appendL 1 3) Sms.nil) (Sms.cons (Sm.appendN 1 (Ex.lst (Exs.cons (Ex.var 3) Exs.nil))) Sms.nil)) (Sms.cons (Sm.asg 2 (Ex.not (Ex.var 4))) Sms.nil)))
theorem f26_eq : f26 = ⟨1, 5, (Sms.cons (Sm.asgT [1, 2] (Exs.cons (Ex.lst Exs.nil) (Exs.cons (Ex.bool false) Exs.nil))) (Sms.cons (Sm.forS [3] (It.val (Ex.var 0)) f26_b0) (Sms.cons (Sm.ret (Ex.var 1)) Sms.nil)))⟩ := rfl
noncomputable def f27_e0 : Ex := (Ex.var 13)
noncomputable def f27_c0 : Exs := (Exs.cons (Ex.cmp Cp.ne (Ex.call 21 (Exs.cons (Ex.idxV 14 (Ex.int 0)) Exs.nil)) (Ex.lst Exs.nil)) Exs.nil)
noncomputable def f27_e1 : Ex := (Ex.call 20 (Exs.cons (Ex.call 25 (Exs.cons (Ex.idxV 7 (Ex.var 13)) (Exs.cons (Ex.bool false) Exs.nil))) (Exs.cons (Ex.var 4) Exs.nil)))
noncomputable def f27_e2 : Ex := (Ex.call 25 (Exs.cons (Ex.var 13) (Exs.cons (Ex.bool false) Exs.nil)))
noncomputable def f27_b0 : Sms := (Sms.cons (Sm.setIdx 11 (Ex.var 8) (Ex.call 25 (Exs.cons (Ex.idxV 7 (Ex.idxV 9 (Ex.var 12))) (Exs.cons (Ex.bool false) Exs.nil)))) Sms.nil)
noncomputable def f27_e3 : Ex := (Ex.call 23 (Exs.cons (Ex.var 13) (Exs.cons (Ex.var 1) (Exs.cons (Ex.var 2) (Exs.cons (Ex.var 3) (Exs.cons (Ex.var 4) Exs.nil))))))
noncomputable def f27_e4 : Ex := (Ex.idxV 0 (Ex.var 13))
theorem f27_eq : f27 = ⟨7, 13, (Sms.cons (Sm.ifS (Ex.cmp Cp.eq (Ex.var 1) (Ex.int 1)) (Sms.cons (Sm.asgC 7 (Ex.call 26 (Exs.cons (Ex.var 0) Exs.nil))) (Sms.cons (Sm.asg 9 (Ex.comp [] 2 (It.enum (Ex.var 7)) f27_c0 f27_e0)) (Sms.cons (Sm.asg 10 (Ex.comp [4, 7] 1 (It.val (Ex.var 9)) Exs.nil f27_e1)) (Sms.cons (Sm.asg 11 (Ex.comp [] 1 (It.val (Ex.var 7)) Exs.nil f27_e2)) (Sms.cons (Sm.forS [8, 12] (It.zip (Ex.var 9) (Ex.call 24 (Exs.cons (Ex.var 10) (Exs.cons (Ex.var 5) Exs.nil)))) f27_b0) (Sms.cons (Sm.ret (Ex.call 25 (Exs.cons (Ex.var 11) (Exs.cons (Ex.var 6) Exs.nil)))) Sms.nil)))))) Sms.nil) (Sms.cons (Sm.asg 10 (Ex.comp [4, 2, 3, 1] 1 (It.val (Ex.var 0)) Exs.nil f27_e3)) (Sms.cons (Sm.ifS (Ex.inn false Ex.none (Ex.var 10)) (Sms.cons (Sm.ret Ex.none) Sms.nil) Sms.nil) (Sms.cons (Sm.ret (Ex.call 25 (Exs.cons (Ex.comp [0] 1 (It.val (Ex.call 24 (Exs.cons (Ex.var 10) (Exs.cons (Ex.var 5) Exs.nil)))) Exs.nil f27_e4) (Exs.cons (Ex.var 6) Exs.nil)))) Sms.nil))))⟩ := rfl
theorem f28_eq : f28 = ⟨5, 5, (Sms.cons (Sm.ifS (Ex.cmp Cp.eq (Ex.var 1) (Ex.int 0)) (Sms.cons (Sm.ret (Ex.call 11 (Exs.cons (Ex.var 0) (Exs.cons (Ex.var 4) Exs.nil)))) Sms.nil) Sms.nil) (Sms.cons (Sm.ifS (Ex.cmp Cp.eq (Ex.var 1) (Ex.int 1)) (Sms.cons (Sm.ret (Ex.call 12 (Exs.cons (Ex.var 0) (Exs.cons (Ex.var 4) Exs.nil)))) Sms.nil) Sms.nil) (Sms.cons (Sm.ifS (Ex.cmp Cp.eq (Ex.var 1) (Ex.int 4)) (Sms.cons (Sm.ret (Ex.call 15 (Exs.cons (Ex.var 0) (Exs.cons (Ex.idxV 3 (Ex.int 0)) (Exs.cons (Ex.idxV 3 (Ex.int 1)) (Exs.cons (Ex.var 4) Exs.nil)))))) Sms.nil) Sms.nil) (Sms.cons (Sm.ret (Ex.ite (Ex.cmp Cp.eq (Ex.var 1) (Ex.int 2)) (Ex.call 13 (Exs.cons (Ex.var 0) (Exs.cons (Ex.var 2) (Exs.cons (Ex.var 4) Exs.nil)))) (Ex.call 14 (Exs.cons (Ex.var 0) (Exs.cons (Ex.var 2) Exs.nil))))) Sms.nil))))⟩ := rfl
noncomputable def f29_b0 : Sms := (Sms.cons (Sm.ifS (Ex.inn true (Ex.var 4) (Ex.ite (Ex.var 2) (Ex.sliceV 3 (Ox.some (Ex.neg (Ex.int 1))) Ox.none) (Ex.var 3))) (Sms.cons (Sm.append 3 (Ex.var 4)) Sms.nil) Sms.nil) Sms.nil)
theorem f29_eq : f29 = ⟨3, 5, (Sms.cons (Sm.asg 3 (Ex.lst Exs.nil)) (Sms.cons (Sm.forS [4] (It.val (Ex.ite (Ex.var 1) (Ex.rev (Ex.var 0)) (Ex.var 0))) f29_b0) (Sms.cons (Sm.ret (Ex.ite (Ex.var 1) (Ex.rev (Ex.var 3)) (Ex.var 3))) Sms.nil)))⟩ := rfl
noncomputable def f30_e0 : Ex := (Ex.abs (Ex.var 19))
noncomputable def f30_e1 : Ex := (Ex.call 19 (Exs.cons (Ex.var 1) Exs.nil))
theorem f30_eq : f30 = ⟨1, 19, (Sms.cons (Sm.asgC 1 (Ex.comp [] 1 (It.val (Ex.sliceV 0 Ox.none (Ox.some (Ex.int 50)))) Exs.nil f30_e0)) (Sms.cons (Sm.asgT [2, 3, 4] (Exs.cons (Ex.call 18 (Exs.cons (Ex.var 1) (Exs.cons (Ex.int 5) Exs.nil))) (Exs.cons (Ex.cmp Cp.eq (Ex.call 18 (Exs.cons (Ex.var 1) (Exs.cons (Ex.int 2) Exs.nil))) (Ex.int 1)) (Exs.cons (Ex.cmp Cp.eq (Ex.call 18 (Exs.cons (Ex.var 1) (Exs.cons (Ex.int 2) Exs.nil))) (Ex.int 1)) Exs.nil)))) (Sms.cons (Sm.asgT [5, 6] (Exs.cons (Ex.idx (Ex.lst (Exs.cons (Ex.int 1) (Exs.cons (Ex.int 2) (Exs.cons (Ex.neg (Ex.int 1)) Exs.nil)))) (Ex.call 18 (Exs.cons (Ex.var 1) (Exs.cons (Ex.int 3) Exs.nil)))) (Exs.cons (Ex.call 18 (Exs.cons (Ex.var 1) (Exs.cons (Ex.int 3) Exs.nil))) Exs.nil))) (Sms.cons (Sm.asg 7 (Ex.tup (Exs.cons (Ex.var 6) (Exs.cons (Ex.add (Ex.var 6) (Ex.call 18 (Exs.cons (Ex.var 1) (Exs.cons (Ex.int 3) Exs.nil)))) Exs.nil)))) (Sms.cons (Sm.asg 8 (Ex.comp [1] 1 (It.range (Ex.add (Ex.int 1) (Ex.call 18 (Exs.cons (Ex.var 1) (Exs.cons (Ex.int 5) Exs.nil))))) Exs.nil f30_e1)) (Sms.cons (Sm.asg 9 (Ex.or (Ex.cmp Cp.gt (Ex.call 18 (Exs.cons (Ex.var 1) (Exs.cons (Ex.int 3) Exs.nil))) (Ex.int 0)) (Ex.cmp Cp.eq (Ex.idxV 8 (Ex.neg (Ex.int 1))) (Ex.lst Exs.nil)))) (Sms.cons (Sm.asg 10 (Ex.call 25 (Exs.cons (Ex.var 8) (Exs.cons (Ex.var 9) Exs.nil)))) (Sms.cons (Sm.asg 11 (Ex.call 27 (Exs.cons (Ex.var 8) (Exs.cons (Ex.var 2) (Exs.cons (Ex.var 5) (Exs.cons (Ex.var 7) (Exs.cons (Ex.var 4) (Exs.cons (Ex.var 3) (Exs.cons (Ex.var 9) Exs.nil))))))))) (Sms.cons (Sm.asg 12 (Ex.call 28 (Exs.cons (Ex.var 10) (Exs.cons (Ex.var 2) (Exs.cons (Ex.var 5) (Exs.cons (Ex.var 7) (Exs.cons (Ex.var 4) Exs.nil))))))) (Sms.cons (Sm.ifS (Ex.cmp Cp.ne (Ex.isNone false (Ex.var 12)) (Ex.isNone false (Ex.var 11))) (Sms.cons (Sm.ret (Ex.bool false)) Sms.nil) Sms.nil) (Sms.cons (Sm.ifS (Ex.and (Ex.isNone true (Ex.var 11)) (Ex.cmp Cp.ne (Ex.call 10 (Exs.cons (Ex.var 10) (Exs.cons (Ex.var 12) (Exs.cons (Ex.var 3) Exs.nil)))) (Ex.var 11))) (Sms.cons (Sm.ret (Ex.bool false)) Sms.nil) Sms.nil) (Sms.cons (Sm.ifS (Ex.cmp Cp.ne (Ex.call 16 (Exs.cons (Ex.var 10) Exs.nil)) (Ex.call 25 (Exs.cons (Ex.rev (Ex.var 8)) (Exs.cons (Ex.var 9) Exs.nil)))) (Sms.cons (Sm.ret (Ex.bool false)) Sms.nil) Sms.nil) (Sms.cons (Sm.asgT [13, 14] (Exs.cons (Ex.cmp Cp.eq (Ex.call 18 (Exs.cons (Ex.var 1) (Exs.cons (Ex.int 2) Exs.nil))) (Ex.int 1)) (Exs.cons (Ex.cmp Cp.eq (Ex.call 18 (Exs.cons (Ex.var 1) (Exs.cons (Ex.int 2) Exs.nil))) (Ex.int 1)) Exs.nil))) (Sms.cons (Sm.asg 15 (Ex.call 29 (Exs.cons (Ex.var 8) (Exs.cons (Ex.var 13) (Exs.cons (Ex.var 14) Exs.nil))))) (Sms.cons (Sm.unp [16, 17] (Ex.call 17 (Exs.cons (Ex.var 10) (Exs.cons (Ex.var 13) (Exs.cons (Ex.var 14) Exs.nil))))) (Sms.cons (Sm.asg 18 (Ex.and (Ex.not (Ex.var 13)) (Ex.inn false (Ex.idxV 8 (Ex.neg (Ex.int 1))) (Ex.ite (Ex.var 14) (Ex.sliceV 8 (Ox.some (Ex.neg (Ex.int 2))) (Ox.some (Ex.neg (Ex.int 1)))) (Ex.sliceV 8 Ox.none (Ox.some (Ex.neg (Ex.int 1)))))))) (Sms.cons (Sm.ret (Ex.and (Ex.cmp Cp.eq (Ex.var 17) (Ex.sub (Ex.len (Ex.var 8)) (Ex.len (Ex.var 15)))) (Ex.cmp Cp.eq (Ex.var 16) (Ex.call 25 (Exs.cons (Ex.var 15) (Exs.cons (Ex.or (Ex.var 9) (Ex.var 18)) Exs.nil)))))) Sms.nil)))))))))))))))))⟩ := rfl
end Mini
end
section
set_option autoImplicit false
set_option maxRecDepth 10000
namespace Mini
set_option tactic.hygienic false
theorem finE {α : Type} {a b c : α} (h : a = b) (e : b = c) : a = c := h.trans e
theorem bnd {α β : Type} {x : Option α} {a : α} {f : α → Option β} {r : Option β} (h : x = some a) (k : f a = r) : (x >>= f) = r := by rw [h]; exact k
theorem itT {α : Type} {c : Bool} {x y r : α} (h : c = true) (k : x = r) : (if c = true then x else y) = r := (if_pos h).trans k
theorem itF {α : Type} {c : Bool} {x y r : α} (h : c = false) (k : y = r) : (if c = true then x else y) = r := by rw [h]; exact k
noncomputable def vF (st : St) (x : Nat) (o : Option Slot) : Option (Slot × St) :=
  match o with
  | some .unset => none
  | some (.dct _) => none
  | some s => some (s.read, { st with v := st.v.set x s.read })
  | none => none
noncomputable def pG (st : St) (x : Nat) (l : List D) (o : Option D) : Option (Slot × St) :=
  match o with
  | some d => some (.fro d, { st with v := st.v.set x (.own l.dropLast) })
  | none => none
noncomputable def pF (st : St) (x : Nat) (o : Option Slot) : Option (Slot × St) :=
  match o with
  | some (.own l) => pG st x l l.getLast?
  | _ => none
section
variable {cf : CF} {st st1 st2 st3 : St} {e e1 e2 a b t : Ex} {es : Exs} {d d1 d2 d3 : D} {s s1 s2 o : Slot} {x f : Nat} {c : Ctl} {bb b1 b2 : Bool} {l ys : List D} {i : Int}
theorem F_of (h : (ev cf e).val st = some (s, st1)) (hf : s.frz = some d) : (ev cf e).F st = some (d, st1) :=
  bnd h (bnd hf rfl)
theorem V_none : (ev cf .none).val st = some (.fro .none, st) := rfl
theorem V_bool : (ev cf (.bool bb)).val st = some (.fro (.bool bb), st) := rfl
theorem V_int : (ev cf (.int i)).val st = some (.fro (.int i), st) := rfl
theorem F_none : (ev cf .none).F st = some (.none, st) := rfl
theorem F_bool : (ev cf (.bool bb)).F st = some (.bool bb, st) := rfl
theorem F_int : (ev cf (.int i)).F st = some (.int i, st) := rfl
theorem set_same {α : Type} {l : List α} {x : Nat} {y : α} (h : l[x]? = some y) : l.set x y = l := by
  obtain ⟨p, q⟩ := List.getElem?_eq_some_iff.mp h
  rw [← q, List.set_getElem_self]
theorem V_fro (h : st.v[x]? = some (.fro d)) : (ev cf (.var x)).val st = some (.fro d, st) :=
  (congrArg (vF st x) h).trans (congrArg (fun z => some (Slot.fro d, St.mk z st.dk)) (set_same h))
theorem V_deck (h : st.v[x]? = some .deck) : (ev cf (.var x)).val st = some (.deck, st) :=
  (congrArg (vF st x) h).trans (congrArg (fun z => some (Slot.deck, St.mk z st.dk)) (set_same h))
theorem V_own (h : st.v[x]? = some (.own l)) : (ev cf (.var x)).val st = some (.fro (.list l), ⟨st.v.set x (.fro (.list l)), st.dk⟩) :=
  congrArg (vF st x) h
theorem V_nest {dn la : List D} (h : st.v[x]? = some (.nest dn la)) : (ev cf (.var x)).val st = some (.fro (.list (dn ++ [.list la])), ⟨st.v.set x (.fro (.list (dn ++ [.list la]))), st.dk⟩) :=
  congrArg (vF st x) h
theorem F_fro (h : st.v[x]? = some (.fro d)) : (ev cf (.var x)).F st = some (d, st) := F_of (V_fro h) rfl
theorem bin_ {ra rb : R} {op : D → D → Option Slot} (ha : ra.F st = some (d1, st1)) (hb : rb.F st1 = some (d2, st2)) (ho : op d1 d2 = some s) : (bin ra rb op).val st = some (s, st2) :=
  bnd ha (bnd hb (bnd ho rfl))
theorem un_ {ra : R} {op : D → Option Slot} (ha : ra.F st = some (d1, st1)) (ho : op d1 = some s) : (un ra op).val st = some (s, st1) :=
  bnd ha (bnd ho rfl)
theorem V_add (ha : (ev cf a).F st = some (d1, st1)) (hb : (ev cf b).F st1 = some (d2, st2)) (ho : addD d1 d2 = some s) : (ev cf (.add a b)).val st = some (s, st2) := bin_ ha hb ho
theorem V_sub (ha : (ev cf a).F st = some (d1, st1)) (hb : (ev cf b).F st1 = some (d2, st2)) (ho : subD d1 d2 = some s) : (ev cf (.sub a b)).val st = some (s, st2) := bin_ ha hb ho
theorem V_mul (ha : (ev cf a).F st = some (d1, st1)) (hb : (ev cf b).F st1 = some (d2, st2)) (ho : mulD d1 d2 = some s) : (ev cf (.mul a b)).val st = some (s, st2) := bin_ ha hb ho
theorem V_mod (ha : (ev cf a).F st = some (d1, st1)) (hb : (ev cf b).F st1 = some (d2, st2)) (ho : modD d1 d2 = some s) : (ev cf (.mod a b)).val st = some (s, st2) := bin_ ha hb ho
theorem V_min (ha : (ev cf a).F st = some (d1, st1)) (hb : (ev cf b).F st1 = some (d2, st2)) (ho : minD d1 d2 = some s) : (ev cf (.min a b)).val st = some (s, st2) := bin_ ha hb ho
theorem V_cmp {op : Cp} (ha : (ev cf a).F st = some (d1, st1)) (hb : (ev cf b).F st1 = some (d2, st2)) (ho : cmpD op d1 d2 = some bb) : (ev cf (.cmp op a b)).val st = some (.fro (.bool bb), st2) :=
  bin_ ha hb (bnd ho rfl)
theorem V_idx {k : Int} (ha : (ev cf a).F st = some (d1, st1)) (hb : (ev cf b).F st1 = some (.int k, st2)) (ho : itemOf d1 k = some d) : (ev cf (.idx a b)).val st = some (.fro d, st2) :=
  bin_ ha hb (bnd ho rfl)
theorem V_neg {k : Int} (ha : (ev cf a).F st = some (.int k, st1)) : (ev cf (.neg a)).val st = some (.fro (.int (-k)), st1) := un_ ha rfl
theorem V_abs (ha : (ev cf a).F st = some (.int i, st1)) : (ev cf (.abs a)).val st = some (.fro (.int i.natAbs), st1) := un_ ha rfl
theorem V_isNone {ng : Bool} (ha : (ev cf a).F st = some (d, st1)) : (ev cf (.isNone ng a)).val st = some (.fro (.bool (if ng then !D.eqv d .none else D.eqv d .none)), st1) := un_ ha rfl
theorem V_rev (ha : (ev cf a).F st = some (.list l, st1)) : (ev cf (.rev a)).val st = some (.own l.reverse, st1) := un_ ha rfl
theorem V_listRange (ha : (ev cf a).F st = some (d, st1)) (hr : rangeD d = some l) : (ev cf (.listRange a)).val st = some (.own l, st1) :=
  un_ ha (bnd hr rfl)
theorem V_idxV {k : Int} (hs : isSet st x = true) (hi : (ev cf a).F st = some (.int k, st1)) (hx : st1.v[x]? = some s) (hp : s.peek = some d1) (ho : itemOf d1 k = some d) : (ev cf (.idxV x a)).val st = some (.fro d, st1) :=
  itT hs (bnd hi (bnd hx (bnd hp (bnd (bnd ho rfl) rfl))))
theorem O_none : evO cf .none st = some (none, st) := rfl
theorem O_some (h : (ev cf a).F st = some (.int i, st1)) : evO cf (.some a) st = some (some i, st1) :=
  bnd h rfl
theorem V_sliceV {lo hi : Ox} {lo' hi' : Option Int} (hs : isSet st x = true) (hl : evO cf lo st = some (lo', st1)) (hh : evO cf hi st1 = some (hi', st2)) (hx : st2.v[x]? = some s) (hp : s.peek = some (.list l)) (hc : cut l lo' hi' = ys) : (ev cf (.sliceV x lo hi)).val st = some (.own ys, st2) :=
  itT hs (bnd hl (bnd hh (bnd hx (bnd hp (congrArg (fun z => some (Slot.own z, st2)) hc)))))
theorem A_nil : evA cf .nil st = some ([], st) := rfl
theorem A_cons {ss : List Slot} (h : (ev cf e).val st = some (s, st1)) (hs : argS s = some s1) (ht : evA cf es st1 = some (ss, st2)) : evA cf (.cons e es) st = some (s1 :: ss, st2) :=
  bnd h (bnd hs (bnd ht rfl))
theorem L_nil : evL cf .nil st = some ([], st) := rfl
theorem L_cons {ds : List D} (h : (ev cf e).F st = some (d, st1)) (ht : evL cf es st1 = some (ds, st2)) : evL cf (.cons e es) st = some (d :: ds, st2) :=
  bnd h (bnd ht rfl)
theorem S_nil : evS cf .nil st = some ([], st) := rfl
theorem S_cons {ss : List Slot} (h : (ev cf e).val st = some (s, st1)) (ht : evS cf es st1 = some (ss, st2)) : evS cf (.cons e es) st = some (s :: ss, st2) :=
  bnd h (bnd ht rfl)
theorem V_call {ss : List Slot} {dk' : List Int} (ha : evA cf es st = some (ss, st1)) (hc : cf f ss st1.dk = some (d, dk')) : (ev cf (.call f es)).val st = some (.fro d, ⟨st1.v, dk'⟩) :=
  bnd ha (bnd hc rfl)
theorem V_lst (h : evL cf es st = some (l, st1)) (hn : Nat.ble l.length lim = true) : (ev cf (.lst es)).val st = some (.own l, st1) :=
  bnd h (if_pos (Nat.le_of_ble_eq_true hn))
theorem V_tup (h : evL cf es st = some (l, st1)) (hn : Nat.ble l.length lim = true) : (ev cf (.tup es)).val st = some (.fro (.tup l), st1) :=
  bnd h (if_pos (Nat.le_of_ble_eq_true hn))
theorem V_dict : (ev cf .dict).val st = some (.dct [], st) := rfl
theorem V_isNil {ng : Bool} (hx : st.v[x]? = some s) (hn : nilOf s st.dk = some bb) : (ev cf (.isNil ng x)).val st = some (.fro (.bool (if ng then !bb else bb)), st) :=
  bnd hx (bnd hn rfl)
theorem V_pop (hx : st.v[x]? = some (.own l)) (hl : l.getLast? = some d) : (ev cf (.pop x)).val st = some (.fro d, ⟨st.v.set x (.own l.dropLast), st.dk⟩) :=
  (congrArg (pF st x) hx).trans (congrArg (pG st x l) hl)
theorem tst_of {r : R} (hr : r.tst = tstOf r.val) (h : r.F st = some (.bool bb, st1)) : r.tst st = some (bb, st1) :=
  (congrFun hr st).trans (bnd h rfl)
theorem T_F (hr : (ev cf e).tst = tstOf (ev cf e).val) (h : (ev cf e).F st = some (.bool bb, st1)) : (ev cf e).tst st = some (bb, st1) := tst_of hr h
theorem T_not (h : (ev cf a).tst st = some (bb, st1)) : (ev cf (.not a)).tst st = some (!bb, st1) :=
  bnd h rfl
theorem T_and_t (h : (ev cf a).tst st = some (bb, st1)) (hb : bb = true) (h2 : (ev cf b).tst st1 = some (b2, st2)) : (ev cf (.and a b)).tst st = some (b2, st2) :=
  bnd h (itT hb h2)
theorem T_and_f (h : (ev cf a).tst st = some (bb, st1)) (hb : bb = false) : (ev cf (.and a b)).tst st = some (false, st1) :=
  bnd h (itF hb rfl)
theorem T_or_t (h : (ev cf a).tst st = some (bb, st1)) (hb : bb = true) : (ev cf (.or a b)).tst st = some (true, st1) :=
  bnd h (itT hb rfl)
theorem T_or_f (h : (ev cf a).tst st = some (bb, st1)) (hb : bb = false) (h2 : (ev cf b).tst st1 = some (b2, st2)) : (ev cf (.or a b)).tst st = some (b2, st2) :=
  bnd h (itF hb h2)
theorem T_ite_t (h : (ev cf t).tst st = some (bb, st1)) (hb : bb = true) (h2 : (ev cf a).tst st1 = some (b2, st2)) : (ev cf (.ite t a b)).tst st = some (b2, st2) :=
  bnd h (itT hb h2)
theorem T_ite_f (h : (ev cf t).tst st = some (bb, st1)) (hb : bb = false) (h2 : (ev cf b).tst st1 = some (b2, st2)) : (ev cf (.ite t a b)).tst st = some (b2, st2) :=
  bnd h (itF hb h2)
theorem T_val (h : (ev cf e).tst st = some (bb, st1)) (hb : bb = b2) : (ev cf e).tst st = some (b2, st1) := by rw [h, hb]
theorem V_not (h : (ev cf a).F st = some (.bool bb, st1)) : (ev cf (.not a)).val st = some (.fro (.bool (!bb)), st1) := un_ h rfl
theorem V_and_t (h : (ev cf a).F st = some (.bool bb, st1)) (hb : bb = true) (h2 : (ev cf b).val st1 = some (s, st2)) : (ev cf (.and a b)).val st = some (s, st2) :=
  by subst hb; exact bnd h h2
theorem V_and_f (h : (ev cf a).F st = some (.bool bb, st1)) (hb : bb = false) : (ev cf (.and a b)).val st = some (.fro (.bool false), st1) :=
  by subst hb; exact bnd h rfl
theorem V_or_t (h : (ev cf a).F st = some (.bool bb, st1)) (hb : bb = true) : (ev cf (.or a b)).val st = some (.fro (.bool true), st1) :=
  by subst hb; exact bnd h rfl
theorem V_or_f (h : (ev cf a).F st = some (.bool bb, st1)) (hb : bb = false) (h2 : (ev cf b).val st1 = some (s, st2)) : (ev cf (.or a b)).val st = some (s, st2) :=
  by subst hb; exact bnd h h2
theorem V_ite_t (h : (ev cf t).tst st = some (bb, st1)) (hb : bb = true) (h2 : (ev cf a).val st1 = some (s, st2)) : (ev cf (.ite t a b)).val st = some (s, st2) :=
  bnd h (itT hb h2)
theorem V_ite_f (h : (ev cf t).tst st = some (bb, st1)) (hb : bb = false) (h2 : (ev cf b).val st1 = some (s, st2)) : (ev cf (.ite t a b)).val st = some (s, st2) :=
  bnd h (itF hb h2)
theorem V_chain_t {o1 o2 : Cp} (ha : (ev cf a).F st = some (d1, st1)) (hb : (ev cf b).F st1 = some (d2, st2)) (h1 : cmpD o1 d1 d2 = some b1) (hr : b1 = true) (hc : (ev cf e).F st2 = some (d3, st3)) (h2 : cmpD o2 d2 d3 = some b2) : (ev cf (.chain o1 o2 a b e)).val st = some (.fro (.bool b2), st3) :=
  bnd ha (bnd hb (bnd h1 (itT hr (bnd hc (bnd h2 rfl)))))
theorem V_chain_f {o1 o2 : Cp} (ha : (ev cf a).F st = some (d1, st1)) (hb : (ev cf b).F st1 = some (d2, st2)) (h1 : cmpD o1 d1 d2 = some b1) (hr : b1 = false) : (ev cf (.chain o1 o2 a b e)).val st = some (.fro (.bool false), st2) :=
  bnd ha (bnd hb (bnd h1 (itF hr rfl)))
theorem B_var (h : st.v[x]? = some s) (hs : isSet st x = true) : (ev cf (.var x)).bor st = some (s, st) :=
  itT hs (bnd h rfl)
theorem B_F (hr : (ev cf e).bor = borOf (ev cf e).val) (h : (ev cf e).F st = some (d, st1)) : (ev cf e).bor st = some (.fro d, st1) :=
  (congrFun hr st).trans (bnd h rfl)
theorem B_ite_t (h : (ev cf t).tst st = some (bb, st1)) (hb : bb = true) (h2 : (ev cf a).bor st1 = some (s, st2)) : (ev cf (.ite t a b)).bor st = some (s, st2) :=
  bnd h (itT hb h2)
theorem B_ite_f (h : (ev cf t).tst st = some (bb, st1)) (hb : bb = false) (h2 : (ev cf b).bor st1 = some (s, st2)) : (ev cf (.ite t a b)).bor st = some (s, st2) :=
  bnd h (itF hb h2)
theorem V_len {n : Nat} (h : (ev cf a).bor st = some (s, st1)) (hn : lenOf s = some n) : (ev cf (.len a)).val st = some (.fro (.int n), st1) :=
  bnd h (bnd hn rfl)
theorem V_inn {ng : Bool} (ha : (ev cf a).F st = some (d, st1)) (hb : (ev cf b).bor st1 = some (s, st2)) (ho : innS ng d s = some o) : (ev cf (.inn ng a b)).val st = some (o, st2) :=
  bnd ha (bnd hb (bnd ho rfl))
theorem V_sorted {rv : Bool} {ks : List D} (ha : (ev cf a).F st = some (.list l, st1)) (hb : (ev cf b).F st1 = some (.bool rv, st2)) (hk : keysBy cf f l st2.dk = some ks) (ho : sortK ks l rv = some ys) : (ev cf (.sorted f a b)).val st = some (.own ys, st2) :=
  bnd ha (bnd hb (bnd (x := some l) rfl (bnd hk (bnd ho rfl))))
theorem V_comp {caps : List Nat} {k : Nat} {it : It} {ifs : Exs} (hi : evI cf it st = some (l, st1)) (hc : caps.all (isCap st1) = true) (h : compL (compOne st1.v.length k (evC cf ifs) (ev cf e)) l ⟨seenV caps (capV caps st1.v) ++ List.replicate k .unset, st1.dk⟩ = some (ys, st2)) :
    (ev cf (.comp caps k it ifs e)).val st = some (.own ys, ⟨capV caps st1.v, st2.dk⟩) :=
  bnd hi (itT hc (bnd h rfl))
theorem CO_some {n k : Nat} {v : List Slot} {ifs : Exs} (hb : bindT (List.range' n k) d st.v = some v) (hi : evC cf ifs ⟨v, st.dk⟩ = some (true, st1)) (he : (ev cf e).F st1 = some (d1, st2)) : compOne n k (evC cf ifs) (ev cf e) d st = some (some d1, st2) :=
  bnd hb (bnd hi (bnd he rfl))
theorem CO_none {n k : Nat} {v : List Slot} {ifs : Exs} (hb : bindT (List.range' n k) d st.v = some v) (hi : evC cf ifs ⟨v, st.dk⟩ = some (false, st1)) : compOne n k (evC cf ifs) (ev cf e) d st = some (none, st1) :=
  bnd hb (bnd hi rfl)
theorem C_nil : evC cf .nil st = some (true, st) := rfl
theorem C_one (h : (ev cf e).tst st = some (bb, st1)) : evC cf (.cons e .nil) st = some (bb, st1) :=
  bnd h (by cases bb <;> rfl)
theorem I_val (h : (ev cf e).F st = some (.list l, st1)) : evI cf (.val e) st = some (l, st1) :=
  bnd h rfl
theorem I_range (h : (ev cf e).F st = some (d, st1)) (hr : rangeD d = some l) : evI cf (.range e) st = some (l, st1) :=
  bnd h (bnd hr rfl)
theorem I_enum (h : (ev cf e).F st = some (.list l, st1)) : evI cf (.enum e) st = some (enumD l, st1) :=
  bnd h rfl
theorem I_zip {m : List D} (h : (ev cf a).F st = some (.list l, st1)) (h2 : (ev cf b).F st1 = some (.list m, st2)) : evI cf (.zip a b) st = some (zipD l m, st2) :=
  bnd h (bnd h2 rfl)
variable {bd bd1 bd2 r : Sms} {sm : Sm} {v : List Slot} {xs : List Nat} {it : It}
theorem X_asg (h : (ev cf e).val st = some (s, st1)) (hs : setSlot st1.v x s = some v) : ex cf (.asg x e) st = some (.next, ⟨v, st1.dk⟩) :=
  bnd h (congrArg (withV st1) hs)
theorem X_asgC (h : (ev cf e).F st = some (d, st1)) (hu : isSet st1 x = false) (hs : setSlot st1.v x (.fro d) = some v) : ex cf (.asgC x e) st = some (.next, ⟨v, st1.dk⟩) :=
  bnd h (itF hu (congrArg (withV st1) hs))
theorem X_asgT {ss : List Slot} (h : evS cf es st = some (ss, st1)) (hs : setSlots xs ss st1.v = some v) : ex cf (.asgT xs es) st = some (.next, ⟨v, st1.dk⟩) :=
  bnd h (congrArg (withV st1) hs)
theorem X_unp (h : (ev cf e).F st = some (.tup l, st1)) (hs : setAll xs l st1.v = some v) : ex cf (.unp xs e) st = some (.next, ⟨v, st1.dk⟩) :=
  bnd h (congrArg (withV st1) hs)
theorem X_setIdx (he : (ev cf e).F st = some (d, st1)) (hs : isSet st1 x = true) (hi : (ev cf a).F st1 = some (d1, st2)) (hx : st2.v[x]? = some s) (hp : putS s d1 d = some s1) : ex cf (.setIdx x a e) st = some (.next, ⟨st2.v.set x s1, st2.dk⟩) :=
  bnd he (itT hs (bnd hi (bnd hx (bnd hp rfl))))
theorem X_append (ho : isOwn st x = true) (he : (ev cf e).F st = some (d, st1)) (hx : st1.v[x]? = some (.own l)) (hl : l.length < lim) : ex cf (.append x e) st = some (.next, ⟨st1.v.set x (.own (l ++ [d])), st1.dk⟩) :=
  itT ho (bnd he (bnd hx (bnd (if_pos hl) rfl)))
theorem X_appendN (ho : isOwn st x = true) (he : (ev cf e).val st = some (s, st1)) (hx : st1.v[x]? = some s1) (hp : appNS s1 s = some s2) : ex cf (.appendN x e) st = some (.next, ⟨st1.v.set x s2, st1.dk⟩) :=
  itT ho (bnd he (bnd hx (bnd hp rfl)))
theorem X_appendL {y : Nat} (hx : st.v[x]? = some s) (hy : st.v[y]? = some s1) (hp : appLS s s1 = some s2) : ex cf (.appendL x y) st = some (.next, ⟨st.v.set x s2, st.dk⟩) :=
  bnd hx (bnd hy (bnd hp rfl))
theorem X_extend (ho : isOwn st x = true) (he : (ev cf e).F st = some (.list ys, st1)) (hx : st1.v[x]? = some (.own l)) (hl : l.length + ys.length ≤ lim) : ex cf (.extend x e) st = some (.next, ⟨st1.v.set x (.own (l ++ ys)), st1.dk⟩) :=
  itT ho (bnd he (bnd hx (bnd (if_pos hl) rfl)))
theorem X_remove (ho : isOwn st x = true) (he : (ev cf e).F st = some (d, st1)) (hx : st1.v[x]? = some s) (hp : remS s d = some s1) : ex cf (.remove x e) st = some (.next, ⟨st1.v.set x s1, st1.dk⟩) :=
  itT ho (bnd he (bnd hx (bnd hp rfl)))
theorem X_for (hi : evI cf it st = some (l, st1)) (h : forL xs (exs cf bd) l st1 = some (c, st2)) : ex cf (.forS xs it bd) st = some (c, st2) :=
  bnd hi h
theorem X_while (h : whileL (ev cf t).tst (exs cf bd) lim st = some (c, st1)) : ex cf (.whileS t bd) st = some (c, st1) :=
  h
theorem X_if_t (h : (ev cf t).tst st = some (bb, st1)) (hb : bb = true) (h2 : exs cf bd1 st1 = some (c, st2)) : ex cf (.ifS t bd1 bd2) st = some (c, st2) :=
  bnd h (itT hb h2)
theorem X_if_f (h : (ev cf t).tst st = some (bb, st1)) (hb : bb = false) (h2 : exs cf bd2 st1 = some (c, st2)) : ex cf (.ifS t bd1 bd2) st = some (c, st2) :=
  bnd h (itF hb h2)
theorem X_ret (h : (ev cf e).val st = some (s, st1)) : ex cf (.ret e) st = some (.ret s, st1) :=
  bnd h rfl
theorem X_brk : ex cf .brk st = some (.brk, st) := rfl
theorem XS_nil : exs cf .nil st = some (.next, st) := rfl
theorem XS_next (h : ex cf sm st = some (.next, st1)) (h2 : exs cf r st1 = some (c, st2)) : exs cf (.cons sm r) st = some (c, st2) :=
  bnd h h2
theorem XS_ret (h : ex cf sm st = some (.ret s, st1)) : exs cf (.cons sm r) st = some (.ret s, st1) :=
  bnd h rfl
theorem XS_brk (h : ex cf sm st = some (.brk, st1)) : exs cf (.cons sm r) st = some (.brk, st1) :=
  bnd h rfl
theorem end_ret (h : exs cf bd st = some (.ret s, st1)) (hf : s.frz = some d) : endR (exs cf bd st) = some (d, st1.dk) :=
  bnd h (congrArg (fun o : Option D => match o with | some d => some (d, st1.dk) | none => none) hf)
theorem while_t {tt : St → Option (Bool × St)} {body : St → Option (Ctl × St)} {n : Nat} {o : Option (Ctl × St)} (h : tt st = some (true, st1)) (h1 : body st1 = some (.next, st2)) (h2 : whileL tt body n st2 = o) : whileL tt body (n + 1) st = o :=
  bnd h (bnd h1 h2)
theorem while_f {tt : St → Option (Bool × St)} {body : St → Option (Ctl × St)} {n : Nat} (h : tt st = some (false, st1)) : whileL tt body (n + 1) st = some (.next, st1) :=
  bnd h rfl
theorem for_next {body : St → Option (Ctl × St)} {ds : List D} {o : Option (Ctl × St)} (hb : bindT xs d st.v = some v) (h1 : body ⟨v, st.dk⟩ = some (.next, st1)) (h2 : forL xs body ds st1 = o) : forL xs body (d :: ds) st = o :=
  bnd hb (bnd h1 h2)
theorem for_brk {body : St → Option (Ctl × St)} {ds : List D} (hb : bindT xs d st.v = some v) (h1 : body ⟨v, st.dk⟩ = some (.brk, st1)) : forL xs body (d :: ds) st = some (.next, st1) :=
  bnd hb (bnd h1 rfl)
theorem comp_cons {one : D → St → Option (Option D × St)} {ds : List D} {r : List D} (h1 : one d st = some (some d1, st1)) (h2 : compL one ds st1 = some (r, st2)) : compL one (d :: ds) st = some (d1 :: r, st2) :=
  bnd h1 (bnd h2 rfl)
theorem compL_gen {σ α : Type} {one : D → St → Option (Option D × St)} (f : α → D) (G : α → Option D) (S : σ → St) : ∀ (items : List α) (s : σ), (∀ a ∈ items, ∀ s, ∃ s', one (f a) (S s) = some (G a, S s')) →
    ∃ s', compL one (items.map f) (S s) = some (items.filterMap G, S s')
  | [], s, _ => ⟨s, rfl⟩
  | a :: items, s, h => by
    obtain ⟨s1, e1⟩ := h a (List.mem_cons_self ..) s
    obtain ⟨s2, e2⟩ := compL_gen f G S items s1 fun b hb => h b (List.mem_cons_of_mem _ hb)
    refine ⟨s2, ?_⟩
    rw [List.filterMap_cons]
    exact bnd e1 (bnd e2 (by cases G a <;> rfl))
theorem fm_some {α β : Type} (g : α → β) : ∀ (l : List α), l.filterMap (fun a => some (g a)) = l.map g
  | [] => rfl
  | a :: l => by rw [List.filterMap_cons, fm_some g l, List.map_cons]
theorem lt_int {p q : Int} : cmpD .lt (.int p) (.int q) = some (decide (p < q)) := rfl
theorem gt_int {p q : Int} : cmpD .gt (.int p) (.int q) = some (decide (q < p)) := rfl
theorem le_int {p q : Int} : cmpD .le (.int p) (.int q) = some (decide (p ≤ q)) := rfl
theorem eq_int {p q : Int} : cmpD .eq (.int p) (.int q) = some (p == q) := rfl
theorem ne_int {p q : Int} : cmpD .ne (.int p) (.int q) = some (!(p == q)) := rfl
theorem eq_bool {p q : Bool} : cmpD .eq (.bool p) (.bool q) = some (p == q) := rfl
theorem ne_bool {p q : Bool} : cmpD .ne (.bool p) (.bool q) = some (!(p == q)) := rfl
theorem eq_small (h : small d1 = true) (he : D.eqv d1 d2 = bb) : cmpD .eq d1 d2 = some bb :=
  (if_pos (Bool.or_eq_true_iff.mpr (.inl h))).trans (congrArg some he)
theorem ne_small (h : small d1 = true) (he : D.eqv d1 d2 = bb) : cmpD .ne d1 d2 = some (!bb) :=
  (if_pos (Bool.or_eq_true_iff.mpr (.inl h))).trans (congrArg (fun z => some (!z)) he)
theorem eq_nil (he : D.eqv d1 (.list []) = bb) : cmpD .eq d1 (.list []) = some bb :=
  (if_pos (Bool.or_eq_true_iff.mpr (.inr rfl))).trans (congrArg some he)
theorem ne_nil (he : D.eqv d1 (.list []) = bb) : cmpD .ne d1 (.list []) = some (!bb) :=
  (if_pos (Bool.or_eq_true_iff.mpr (.inr rfl))).trans (congrArg (fun z => some (!z)) he)
end
end Mini
end
section
set_option autoImplicit false
set_option linter.unusedSimpArgs false
set_option linter.unusedVariables false
set_option linter.unusedSectionVars false
set_option maxRecDepth 10000
set_option maxHeartbeats 4000000
namespace Mini
set_option tactic.hygienic false
set_option hygiene false in
local macro_rules | `(tactic| walk_at "mR") => `(tactic| first | assumption | exact rfl)
set_option hygiene false in
local macro_rules | `(tactic| walk_at "mE") => `(tactic| first | exact rfl | (simp; done) | (simp [*]; done))
set_option hygiene false in
local macro_rules | `(tactic| walk_at "mK") => `(tactic| first | assumption | exact rfl | exact decide_eq_true (by assumption) | exact decide_eq_false (by assumption) | exact decide_eq_false (Int.not_lt.mpr (by assumption)) | exact decide_eq_false (Int.not_le.mpr (by assumption)) | exact congrArg Bool.not (decide_eq_false (by assumption)) | exact congrArg Bool.not (decide_eq_true (by assumption)) | exact congrArg Bool.not (by assumption) | (simp; done) | (simp; assumption))
set_option hygiene false in
local macro_rules | `(tactic| walk_at "mO") => `(tactic| first
  | (with_reducible first | exact lt_int | exact gt_int | exact le_int | exact eq_int | exact ne_int | exact eq_bool | exact ne_bool)
  | assumption | ((first | apply eq_nil | apply ne_nil); walk_at "mR") | ((first | apply eq_small | apply ne_small) <;> assumption) | exact rfl)
set_option hygiene false in
local macro_rules | `(tactic| walk_at "mF") => `(tactic| first
  | (with_reducible first | exact F_int | exact F_bool | exact F_none)
  | ((with_reducible apply F_fro); exact rfl)
  | (apply F_of; walk_at "mV"; exact rfl))
set_option hygiene false in
local macro_rules | `(tactic| walk_at "mFF") => `(tactic| (walk_at "mF"; walk_at "mF"))
set_option hygiene false in
local macro_rules | `(tactic| walk_at "mTK") => `(tactic| (walk_at "mT"; walk_at "mK"))
set_option hygiene false in
local macro_rules | `(tactic| walk_at "mV") => `(tactic| first
  | (with_reducible first | exact V_int | exact V_bool | exact V_none | exact V_dict)
  | ((with_reducible apply V_fro); exact rfl)
  | ((with_reducible apply V_own); exact rfl)
  | ((with_reducible apply V_deck); exact rfl)
  | ((with_reducible apply V_nest); exact rfl)
  | ((with_reducible first | apply V_add | apply V_sub | apply V_mul | apply V_min | apply V_mod | apply V_idx); walk_at "mFF"; walk_at "mR")
  | ((with_reducible apply V_cmp); walk_at "mFF"; walk_at "mO")
  | ((with_reducible first | apply V_not | apply V_neg | apply V_abs | apply V_isNone | apply V_rev); walk_at "mF")
  | ((with_reducible apply V_idxV); exact rfl; walk_at "mF"; exact rfl; exact rfl; walk_at "mR")
  | ((with_reducible apply V_sliceV); exact rfl; walk_at "mOx"; walk_at "mOx"; exact rfl; exact rfl; walk_at "mR")
  | ((with_reducible apply V_call); walk_at "mA"; first | assumption | apply_assumption | exact rfl)
  | ((with_reducible first | apply V_lst | apply V_tup); walk_at "mL"; exact rfl)
  | ((with_reducible apply V_ite_t); walk_at "mTK"; walk_at "mV")
  | ((with_reducible apply V_ite_f); walk_at "mTK"; walk_at "mV")
  | ((with_reducible apply V_len); walk_at "mB"; walk_at "mR")
  | ((with_reducible first | apply V_and_t | apply V_or_f); walk_at "mF"; walk_at "mK"; walk_at "mV")
  | ((with_reducible first | apply V_and_f | apply V_or_t); walk_at "mF"; walk_at "mK")
  | ((with_reducible apply V_chain_t); walk_at "mFF"; walk_at "mO"; walk_at "mK"; walk_at "mF"; walk_at "mO")
  | ((with_reducible apply V_chain_f); walk_at "mFF"; walk_at "mO"; walk_at "mK")
  | ((with_reducible apply V_listRange); walk_at "mF"; walk_at "mR")
  | ((with_reducible apply V_inn); walk_at "mF"; walk_at "mB"; walk_at "mR")
  | ((with_reducible apply V_isNil); exact rfl; exact rfl)
  | ((with_reducible apply V_pop); exact rfl; walk_at "mR")
  | ((with_reducible apply V_sorted); walk_at "mFF"; assumption; assumption)
  | ((with_reducible apply V_comp); walk_at "mI"; exact rfl; assumption))
set_option hygiene false in
local macro_rules | `(tactic| walk_at "mT") => `(tactic| first
  | ((with_reducible apply T_not); walk_at "mT")
  | ((with_reducible first | apply T_and_t | apply T_or_f | apply T_ite_t); walk_at "mTK"; walk_at "mT")
  | ((with_reducible first | apply T_and_f | apply T_or_t); walk_at "mTK")
  | ((with_reducible apply T_ite_f); walk_at "mTK"; walk_at "mT")
  | (apply T_F; exact rfl; walk_at "mF"))
set_option hygiene false in
local macro_rules | `(tactic| walk_at "mB") => `(tactic| first
  | ((with_reducible apply B_var); exact rfl; exact rfl)
  | ((with_reducible apply B_ite_t); walk_at "mTK"; walk_at "mB")
  | ((with_reducible apply B_ite_f); walk_at "mTK"; walk_at "mB")
  | (apply B_F; exact rfl; walk_at "mF"))
set_option hygiene false in
local macro_rules | `(tactic| walk_at "mA") => `(tactic| first | with_reducible exact A_nil | ((with_reducible apply A_cons); walk_at "mV"; exact rfl; walk_at "mA"))
set_option hygiene false in
local macro_rules | `(tactic| walk_at "mL") => `(tactic| first | with_reducible exact L_nil | ((with_reducible apply L_cons); walk_at "mF"; walk_at "mL"))
set_option hygiene false in
local macro_rules | `(tactic| walk_at "mS") => `(tactic| first | with_reducible exact S_nil | ((with_reducible apply S_cons); walk_at "mV"; walk_at "mS"))
set_option hygiene false in
local macro_rules | `(tactic| walk_at "mOx") => `(tactic| first | with_reducible exact O_none | ((with_reducible apply O_some); walk_at "mF"))
set_option hygiene false in
local macro_rules | `(tactic| walk_at "mI") => `(tactic| first
  | ((with_reducible first | apply I_val | apply I_enum); walk_at "mF")
  | ((with_reducible apply I_range); walk_at "mF"; assumption)
  | ((with_reducible apply I_zip); walk_at "mFF"))
set_option hygiene false in
local macro_rules | `(tactic| walk_at "mX") => `(tactic| first
  | ((with_reducible apply X_asg); walk_at "mV"; exact rfl)
  | ((with_reducible apply X_asgT); walk_at "mS"; exact rfl)
  | ((with_reducible apply X_unp); walk_at "mF"; exact rfl)
  | ((with_reducible first | apply X_append | apply X_extend); exact rfl; walk_at "mF"; exact rfl; walk_at "mK")
  | ((with_reducible apply X_if_t); walk_at "mTK"; walk_at "mXS")
  | ((with_reducible apply X_if_f); walk_at "mTK"; walk_at "mXS")
  | ((with_reducible apply X_ret); walk_at "mV")
  | ((with_reducible apply X_for); walk_at "mI"; assumption)
  | ((with_reducible apply X_while); assumption)
  | ((with_reducible apply X_setIdx); walk_at "mF"; exact rfl; walk_at "mF"; exact rfl; walk_at "mR")
  | ((with_reducible apply X_appendN); exact rfl; walk_at "mV"; exact rfl; walk_at "mR")
  | ((with_reducible apply X_appendL); exact rfl; exact rfl; walk_at "mR")
  | ((with_reducible apply X_remove); exact rfl; walk_at "mF"; exact rfl; assumption)
  | ((with_reducible apply X_asgC); walk_at "mF"; exact rfl; exact rfl)
  | with_reducible exact X_brk)
set_option hygiene false in
local macro_rules | `(tactic| walk_at "mXS") => `(tactic| first
  | with_reducible exact XS_nil
  | ((with_reducible apply XS_next); walk_at "mX"; walk_at "mXS")
  | ((with_reducible apply XS_ret); walk_at "mX")
  | ((with_reducible apply XS_brk); walk_at "mX"))
set_option hygiene false in
local macro_rules | `(tactic| walk_at "mini") => `(tactic| first
  | ((with_reducible apply T_val); walk_at "mTK")
  | (apply finE (b := some (_, _)); (first | walk_at "mXS" | walk_at "mX" | walk_at "mT" | walk_at "mF" | walk_at "mV"); walk_at "mE")
  | (apply finE (b := some (_, _)); ((with_reducible apply end_ret); walk_at "mXS"; exact rfl); walk_at "mE")
  | (apply finE (b := some (some _, _)); ((with_reducible apply CO_some); exact rfl; (first | with_reducible exact C_nil | ((with_reducible apply C_one); walk_at "mT")); walk_at "mF"); walk_at "mE")
  | (apply finE (b := some (none, _)); ((with_reducible apply CO_none); exact rfl; (with_reducible apply C_one); walk_at "mT"); walk_at "mE"))
noncomputable def dc (i : Int) : Int := if (65 ≤ i ∧ i ≤ 90) ∨ (192 ≤ i ∧ i ≤ 222 ∧ i ≠ 215) then i + 32 else i
noncomputable abbrev IL (l : List Int) : D := .list (l.map D.int)
noncomputable abbrev nD (n : Nat) : D := .int (n : Nat)
noncomputable abbrev NL (l : List Nat) : D := .list (l.map nD)
theorem place_nat {n a : Nat} (h : a < n) : place n (a : Int) = some a := by
  unfold place
  have h1 : (0 : Int) ≤ (a : Int) := by omega
  have h2 : (a : Int) < (n : Int) := by omega
  simp [h1, h2, h]
theorem item_IL {l : List Int} {a : Nat} {x : Int} (h : l[a]? = some x) : itemOf (IL l) (a : Int) = some (.int x) := by
  have ha : a < l.length := by
    rcases Nat.lt_or_ge a l.length with q | q
    · exact q
    · rw [List.getElem?_eq_none q] at h; cases h
  simp [IL, itemOf, place_nat ha, h]
theorem call_eq {k f : Nat} {fn : Fn} {args : List Slot} {dk : List Int} (h : tblE f = some fn) (hl : args.length = fn.np) :
    callF tblE (k + 1) f args dk = endR (exs (callF tblE k) fn.body { v := args ++ List.replicate (fn.nv - fn.np) .unset, dk := dk }) := by
  simp only [callFq1, callFq2, h, hl, if_true]
theorem c_downcase (k : Nat) (i : Int) (dk : List Int) : callF tblE (k + 1) 0 [.fro (.int i)] dk = some (.int (dc i), dk) := by
  rw [call_eq (fn := f0) rfl rfl]
  unfold dc
  delta f0
  by_cases h1 : 65 ≤ i
  · by_cases h2 : i ≤ 90
    · rw [if_pos (.inl ⟨h1, h2⟩)]
      walk_at "mini"
    · by_cases h3 : 192 ≤ i
      · by_cases h4 : i ≤ 222
        · cases h5 : (i == 215)
          · have h6 : i ≠ 215 := by simpa using h5
            rw [if_pos (.inr ⟨h3, h4, h6⟩)]
            walk_at "mini"
          · have h6 : i = 215 := by simpa using h5
            rw [if_neg (by omega)]
            walk_at "mini"
        · rw [if_neg (by omega)]
          walk_at "mini"
      · rw [if_neg (by omega)]
        walk_at "mini"
  · have h3 : ¬ 192 ≤ i := by omega
    rw [if_neg (by omega)]
    walk_at "mini"
theorem c_key (k : Nat) (a b c : D) (dk : List Int) : callF tblE (k + 1) 9 [.fro (.tup [a, b, c])] dk = some (c, dk) := by
  rw [call_eq (fn := f9) rfl rfl]
  delta f9
  walk_at "mini"
theorem c_gap (k : Nat) (l : List Int) (a : Nat) (x : Int) (dk : List Int) (h : l[a]? = some x) : callF tblE (k + 1) 3 [.fro (IL l), .fro (.int a)] dk = some (.bool (x == 32 || x == 9), dk) := by
  have e := item_IL h
  rw [call_eq (fn := f3) rfl rfl]
  delta f3
  cases h1 : (x == 32) with
  | true => walk_at "mini"
  | false =>
    rw [Bool.false_or]
    walk_at "mini"
theorem b_downcased {cf : CF} (h0 : ∀ (i : Int) (dk : List Int), cf 0 [.fro (.int i)] dk = some (.int (dc i), dk)) (l : List Int) (dk : List Int) : endR (exs cf f1.body { v := [.fro (IL l)], dk := dk }) = some (IL (l.map dc), dk) := by
  obtain ⟨s', o⟩ := compL_gen (one := compOne 1 1 (evC cf .nil) (ev cf f1_e0)) D.int (fun i => some (.int (dc i))) (fun s : Slot => ⟨[.unset, s], dk⟩) l .unset (fun i _ s => ⟨.fro (.int i), by
    have h := h0 i dk
    delta f1_e0
    walk_at "mini"⟩)
  rw [fm_some, show (l.map fun i => D.int (dc i)) = (l.map dc).map D.int from (List.map_map ..).symm] at o
  rw [f1_eq]
  walk_at "mini"
theorem c_downcased (k : Nat) (l : List Int) (dk : List Int) : callF tblE (k + 2) 1 [.fro (IL l)] dk = some (IL (l.map dc), dk) := by
  rw [call_eq (fn := f1) rfl rfl]
  exact b_downcased (fun i dk => c_downcase k i dk) l dk
theorem seq_next {a b : St → Option (Ctl × St)} {st st1 : St} (h : a st = some (.next, st1)) : seqS a b st = b st1 := by
  exact bnd h rfl
theorem forL_step {xs : List Nat} {body : St → Option (Ctl × St)} {d : D} {ds : List D} {st st1 : St} {v : List Slot} {o : Option (Ctl × St)} (hb : bindT xs d st.v = some v) (hy : body { st with v := v } = some (.next, st1)) (he : forL xs body ds st1 = o) : forL xs body (d :: ds) st = o := for_next hb hy he
noncomputable def rowsL : List Int → Nat → Nat → List (Nat × Nat)
  | [], a, s => if s < a then [(s, a)] else []
  | c :: r, a, s => if c = 10 then (s, a) :: rowsL r (a + 1) (a + 1) else rowsL r (a + 1) s
theorem rowsLq1 (u u1 : Nat) : rowsL [] u u1 = if u1 < u then [(u1, u)] else [] := rfl
theorem rowsLq2 (u u1 : Nat) (c : Int) (r : List Int) : rowsL (c :: r) u u1 = if c = 10 then (u1, u) :: rowsL r (u + 1) (u + 1) else rowsL r (u + 1) u1 := rfl
noncomputable def pD (p : Nat × Nat) : D := .tup [.int p.1, .int p.2]
noncomputable abbrev PL (l : List (Nat × Nat)) : D := .list (l.map pD)
theorem range_d {n : Nat} (h : n ≤ 10000) : rangeD (.int (n : Nat)) = some ((List.range n).map fun i => .int (i : Nat)) := by
  have h1 : (0 : Int) ≤ (n : Int) ∧ (n : Int) ≤ (lim : Int) := by unfold lim; (first | lia | omega)
  simp only [rangeD]
  rw [if_pos h1]
  rfl
theorem drop_cons {α : Type} {l : List α} {a : Nat} {c : α} {t : List α} (h : l.drop a = c :: t) : l[a]? = some c ∧ l.drop (a + 1) = t ∧ a < l.length := by
  have ha : a < l.length := by
    rcases Nat.lt_or_ge a l.length with q | q
    · exact q
    · rw [List.drop_eq_nil_of_le q] at h; cases h
  rw [List.drop_eq_getElem_cons ha] at h
  injection h with h1 h2
  exact ⟨by rw [List.getElem?_eq_getElem ha, h1], h2, ha⟩
theorem map_snoc {α β : Type} (f : α → β) (l : List α) (x : α) : l.map f ++ [f x] = (l ++ [x]).map f := by
  rw [List.map_append]; rfl
theorem map_lim {α β : Type} (f : α → β) {l : List α} (h : l.length < 100000) : (l.map f).length < lim := by
  rw [List.length_map]; unfold lim; (first | lia | omega)
theorem rows_loop {cf : CF} (l : List Int) (dk : List Int) : ∀ (rest : List Int) (i start : Nat) (found : List (Nat × Nat)) (s3 : Slot), l.drop i = rest → found.length ≤ i → i + rest.length = l.length → l.length ≤ 10000 →
    ∃ (found' : List (Nat × Nat)) (start' : Nat) (s3' : Slot), forL [3] (exs cf f2_b0) ((List.range' i rest.length).map nD) { v := [.fro (IL l), .own (found.map pD), .fro (nD start), s3], dk := dk } =
      some (.next, { v := [.fro (IL l), .own (found'.map pD), .fro (nD start'), s3'], dk := dk }) ∧ found' ++ (if start' < l.length then [(start', l.length)] else []) = found ++ rowsL rest i start ∧ found'.length ≤ l.length
  | [], i, start, found, s3, _, h2, h3, _ => ⟨found, start, s3, rfl, by simp only [List.length_nil, Nat.add_zero] at h3; rw [rowsLq1, h3], by rw [← h3]; exact h2⟩
  | x :: rest, i, start, found, s3, hd, h2, h3, hl => by
    obtain ⟨d1, d2, d3⟩ := drop_cons hd
    have ei := item_IL d1
    rw [List.length_cons] at h3
    rw [List.length_cons, List.range'_succ, List.map_cons]
    cases h10 : (x == 10) with
    | true =>
      obtain ⟨f', s', s3', e, e1, e2⟩ := rows_loop (cf := cf) l dk rest (i + 1) (i + 1) (found ++ [(start, i)]) (.fro (nD i)) d2 (by rw [List.length_append]; exact Nat.succ_le_succ h2) (by (first | lia | omega)) hl
      have hf := map_lim pD (l := found) (by (first | lia | omega))
      refine ⟨f', s', s3', for_next rfl ?_ e, by rw [e1, rowsLq2, if_pos (eq_of_beq h10), List.append_assoc]; rfl, e2⟩
      rw [← map_snoc]
      delta f2_b0
      walk_at "mini"
    | false =>
      obtain ⟨f', s', s3', e, e1, e2⟩ := rows_loop (cf := cf) l dk rest (i + 1) start found (.fro (nD i)) d2 (by (first | lia | omega)) (by (first | lia | omega)) hl
      refine ⟨f', s', s3', for_next rfl ?_ e, by rw [e1, rowsLq2, if_neg (ne_of_beq_false h10)], e2⟩
      delta f2_b0
      walk_at "mini"
theorem b_rows {cf : CF} (l : List Int) (dk : List Int) (hl : l.length ≤ 10000) : endR (exs cf f2.body { v := [.fro (IL l), .unset, .unset, .unset], dk := dk }) = some (PL (rowsL l 0 0), dk) := by
  obtain ⟨found, start, s3, e, h1, h2⟩ := rows_loop (cf := cf) l dk l 0 0 [] .unset rfl (Nat.le_refl _) (Nat.zero_add _) hl
  have hr := range_d hl
  rw [List.range_eq_range'] at hr
  have hn : lenOf (.fro (IL l)) = some l.length := congrArg some (List.length_map ..)
  have hf := map_lim pD (l := found) (by (first | lia | omega))
  rw [List.nil_append] at h1
  rw [f2_eq, ← h1]
  by_cases hs : start < l.length
  · have hsi : (start : Int) < (l.length : Int) := by (first | lia | omega)
    rw [if_pos hs, PL, ← map_snoc]
    walk_at "mini"
  · have hsi : ¬ (start : Int) < (l.length : Int) := by (first | lia | omega)
    rw [if_neg hs, List.append_nil]
    walk_at "mini"
noncomputable def drawV (dk : List Int) (n : Int) : Int := match dk with | [] => 0 | i :: _ => i.fmod n
noncomputable def drawR (dk : List Int) : List Int := dk.drop 1
noncomputable def qF (st : St) (o : Option Slot) : Option (Slot × St) :=
  match o with
  | some .deck => (match st.dk with | i :: r => some (.fro (.int i), { st with dk := r }) | [] => none)
  | _ => none
theorem V_pop0 {cf : CF} {v : List Slot} {x : Nat} {i : Int} {r : List Int} (hx : v[x]? = some .deck) : (ev cf (.pop0 x)).val ⟨v, i :: r⟩ = some (.fro (.int i), ⟨v, r⟩) := by
  exact congrArg (qF ⟨v, i :: r⟩) hx
theorem c_draw (k : Nat) (n : Int) (dk : List Int) (h : n ≠ 0) : callF tblE (k + 1) 18 [.deck, .fro (.int n)] dk = some (.int (drawV dk n), drawR dk) := by
  rw [call_eq (fn := f18) rfl rfl]
  delta f18
  cases dk with
  | nil => walk_at "mini"
  | cons i r =>
    have hm : modD (.int i) (.int n) = some (.fro (.int (i.fmod n))) := by
      simp only [modD]; exact if_neg h
    refine end_ret (s := .fro (.int (i.fmod n))) (st1 := ⟨[.deck, .fro (.int n)], r⟩) (XS_ret (X_ret (V_ite_t (bb := true) (st1 := ⟨[.deck, .fro (.int n)], i :: r⟩) ?_ rfl (V_mod (F_of (V_pop0 rfl) rfl) (F_fro rfl) hm)))) rfl
    walk_at "mini"
theorem draw_lt (n : Int) (h : 0 < n) (dk : List Int) : 0 ≤ drawV dk n ∧ drawV dk n < n := by
  cases dk with
  | nil => exact ⟨Int.le_refl _, h⟩
  | cons i r => exact ⟨Int.fmod_nonneg_of_pos i h, Int.fmod_lt_of_pos i h⟩
noncomputable def sm (folds : Bool) (i : Int) : Int := if folds && decide (65 ≤ i) && decide (i ≤ 90) then i + 32 else i
theorem b_small {cf : CF} (l : List Int) (folds : Bool) (dk : List Int) : endR (exs cf f20.body { v := [.fro (IL l), .fro (.bool folds)], dk := dk }) = some (IL (l.map (sm folds)), dk) := by
  obtain ⟨s', o⟩ := compL_gen (one := compOne 2 1 (evC cf .nil) (ev cf f20_e0)) D.int (fun i => some (.int (sm folds i))) (fun s : Slot => ⟨[.unset, .fro (.bool folds), s], dk⟩) l .unset (fun i _ s => ⟨.fro (.int i), by
    delta f20_e0
    cases folds with
    | false => walk_at "mini"
    | true =>
      by_cases h1 : 65 ≤ i
      · by_cases h2 : i ≤ 90
        · rw [show sm true i = i + 32 by simp [sm, h1, h2]]
          walk_at "mini"
        · rw [show sm true i = i by simp [sm, h2]]
          walk_at "mini"
      · rw [show sm true i = i by simp [sm, h1]]
        walk_at "mini"⟩)
  rw [fm_some, show (l.map fun i => D.int (sm folds i)) = (l.map (sm folds)).map D.int from (List.map_map ..).symm] at o
  rw [f20_eq]
  walk_at "mini"
noncomputable def textL : List (List Int) → Bool → List Int
  | [], _ => []
  | r :: rs, e => r ++ (if rs ≠ [] ∨ e = true then [10] else []) ++ textL rs e
theorem textLq1 (u : Bool) : textL [] u = [] := rfl
theorem textLq2 (u : Bool) (r : List Int) (rs : List (List Int)) : textL (r :: rs) u = (r ++ if rs ≠ [] ∨ u = true then [10] else []) ++ textL rs u := rfl
noncomputable abbrev LL (rows : List (List Int)) : D := .list (rows.map IL)
theorem add_ints {a b : List Int} (h : a.length + b.length ≤ lim) : addD (.list (a.map D.int)) (.list (b.map D.int)) = some (.own ((a ++ b).map D.int)) := by
  simp only [addD, List.length_map]
  rw [if_pos h, List.map_append]
theorem text_loop {cf : CF} (rows0 : List (List Int)) (e : Bool) (dk : List Int) : ∀ (rows : List (List Int)) (i : Nat) (acc : List Int) (s3 s4 : Slot), i + rows.length = rows0.length → acc.length + (textL rows e).length ≤ lim →
    ∃ (s3' s4' : Slot), forL [3, 4] (exs cf f25_b0) ((rows.zipIdx i).map fun p => .tup [nD p.2, IL p.1]) { v := [.fro (LL rows0), .fro (.bool e), .own (acc.map D.int), s3, s4], dk := dk } =
      some (.next, { v := [.fro (LL rows0), .fro (.bool e), .own ((acc ++ textL rows e).map D.int), s3', s4'], dk := dk })
  | [], i, acc, s3, s4, _, _ => ⟨s3, s4, by rw [textLq1, List.append_nil]; rfl⟩
  | r :: rs, i, acc, s3, s4, hi, hl => by
    rw [List.length_cons] at hi
    simp only [textLq1, textLq2, List.length_append] at hl
    have hn : lenOf (.fro (LL rows0)) = some rows0.length := congrArg some (List.length_map ..)
    have a1 := add_ints (a := acc) (b := r) (by (first | lia | omega))
    have fin : ∀ w : List Int, (w = if rs ≠ [] ∨ e = true then [10] else []) → exs cf f25_b0 { v := [.fro (LL rows0), .fro (.bool e), .own (acc.map D.int), .fro (nD i), .fro (IL r)], dk := dk } = some (.next, { v := [.fro (LL rows0), .fro (.bool e), .own ((acc ++ r ++ w).map D.int), .fro (nD i), .fro (IL r)], dk := dk }) →
        ∃ (s3' s4' : Slot), forL [3, 4] (exs cf f25_b0) (((r :: rs).zipIdx i).map fun p => .tup [nD p.2, IL p.1]) { v := [.fro (LL rows0), .fro (.bool e), .own (acc.map D.int), s3, s4], dk := dk } =
      some (.next, { v := [.fro (LL rows0), .fro (.bool e), .own ((acc ++ textL (r :: rs) e).map D.int), s3', s4'], dk := dk }) := fun w hw hy => by
      subst hw
      obtain ⟨s3', s4', q⟩ := text_loop (cf := cf) rows0 e dk rs (i + 1) (acc ++ r ++ (if rs ≠ [] ∨ e = true then [10] else [])) (.fro (nD i)) (.fro (IL r)) (by (first | lia | omega)) (by simp only [List.length_append]; (first | lia | omega))
      refine ⟨s3', s4', ?_⟩
      rw [textLq2, ← List.append_assoc, ← List.append_assoc]
      exact for_next rfl hy q
    have hle : (if rs ≠ [] ∨ e = true then ([10] : List Int) else []).length ≤ 1 := by split <;> decide
    cases rs with
    | cons x xs =>
      have hq : (i : Int) < (rows0.length : Int) - 1 := by rw [List.length_cons] at hi; (first | lia | omega)
      have hc : x :: xs ≠ [] ∨ e = true := .inl (List.cons_ne_nil _ _)
      rw [if_pos hc] at hl
      have a2 := add_ints (a := acc ++ r) (b := [10]) (by rw [List.length_append]; (first | lia | omega))
      refine fin [10] (by rw [if_pos hc]) ?_
      delta f25_b0
      walk_at "mini"
    | nil =>
      have hq : ¬ (i : Int) < (rows0.length : Int) - 1 := by rw [List.length_nil] at hi; (first | lia | omega)
      cases e with
      | true =>
        rw [if_pos (.inr rfl)] at hl
        have a2 := add_ints (a := acc ++ r) (b := [10]) (by rw [List.length_append]; (first | lia | omega))
        refine fin [10] rfl ?_
        delta f25_b0
        walk_at "mini"
      | false =>
        have a2 := add_ints (a := acc ++ r) (b := []) (by rw [List.length_append]; show _ ≤ _; simp only [List.length_nil]; (first | lia | omega))
        refine fin [] rfl ?_
        delta f25_b0
        walk_at "mini"
theorem enum_rows (rows : List (List Int)) : enumD (rows.map IL) = (rows.zipIdx 0).map fun p => .tup [nD p.2, IL p.1] := by
  rw [enumD, List.zipIdx_map, List.map_map]
  rfl
theorem b_text {cf : CF} (rows : List (List Int)) (e : Bool) (dk : List Int) (ht : (textL rows e).length ≤ lim) :
    endR (exs cf f25.body { v := [.fro (LL rows), .fro (.bool e), .unset, .unset, .unset], dk := dk }) = some (IL (textL rows e), dk) := by
  obtain ⟨s3, s4, q⟩ := text_loop (cf := cf) rows e dk rows 0 [] .unset .unset (Nat.zero_add _) (by rw [List.length_nil]; (first | lia | omega))
  rw [← enum_rows] at q
  rw [f25_eq]
  walk_at "mini"
theorem c_rows (k : Nat) (l : List Int) (dk : List Int) (hl : l.length ≤ 10000) : callF tblE (k + 1) 2 [.fro (IL l)] dk = some (PL (rowsL l 0 0), dk) := by
  rw [call_eq (fn := f2) rfl rfl]
  exact b_rows l dk hl
theorem c_small (k : Nat) (l : List Int) (folds : Bool) (dk : List Int) : callF tblE (k + 1) 20 [.fro (IL l), .fro (.bool folds)] dk = some (IL (l.map (sm folds)), dk) := by
  rw [call_eq (fn := f20) rfl rfl]
  exact b_small l folds dk
theorem c_text (k : Nat) (rows : List (List Int)) (e : Bool) (dk : List Int) (_hl : rows.length ≤ 10000) (ht : (textL rows e).length ≤ lim) : callF tblE (k + 1) 25 [.fro (LL rows), .fro (.bool e)] dk = some (IL (textL rows e), dk) := by
  rw [call_eq (fn := f25) rfl rfl]
  exact b_text rows e dk ht
noncomputable abbrev recD (p : Nat × Nat × D) : D := .tup [.int (p.1 : Nat), .int (p.2.1 : Nat), p.2.2]
theorem keysBy_recs (k : Nat) (dk : List Int) : ∀ (rs : List (Nat × Nat × D)), keysBy (callF tblE (k + 1)) 9 (rs.map recD) dk = some (rs.map fun p => p.2.2)
  | [] => rfl
  | p :: rs => by
    have h := c_key k (.int (p.1 : Nat)) (.int (p.2.1 : Nat)) p.2.2 dk
    have ih := keysBy_recs k dk rs
    simp only [List.map_cons, keysByq1, keysByq2, h, Option.bind_eq_bind, Option.bind_some, if_true, ih]
noncomputable def ordL (rs : List (Nat × Nat × D)) (rv : Bool) : List (Nat × Nat × D) :=
  if rv then (isort (fun p q => (plt p.2.2 q.2.2).getD false) rs.reverse).reverse else isort (fun p q => (plt p.2.2 q.2.2).getD false) rs
theorem b_ordered {cf : CF} (rs : List (Nat × Nat × D)) (rv : Bool) (dk : List Int) (hk : keysBy cf 9 (rs.map recD) dk = some (rs.map fun p => p.2.2)) (hok : keysOk (rs.map fun p => p.2.2) = true) (h5 : rs.length ≤ 5) :
    endR (exs cf f8.body { v := [.fro (.list (rs.map recD)), .fro (.bool rv)], dk := dk }) = some (.list ((ordL rs rv).map recD), dk) := by
  have hz : (rs.map fun p => p.2.2).zip (rs.map recD) = rs.map fun p => (p.2.2, recD p) := by
    clear hk hok h5
    induction rs with
    | nil => rfl
    | cons p rs ih => simp only [List.map_cons, List.zip_cons_cons, ih]
  have hs : sortK (rs.map fun p => p.2.2) (rs.map recD) rv = some ((ordL rs rv).map recD) := by
    unfold sortK
    rw [hz]
    have hl : (rs.map recD).length ≤ 5 := by simpa using h5
    have hl2 : (rs.map fun p => p.2.2).length = (rs.map recD).length := by simp
    rw [if_pos (by simp [hok, h5])]
    have e1 : ∀ l : List (Nat × Nat × D), isort pl (l.map fun p => (p.2.2, recD p)) = (isort (fun p q => (plt p.2.2 q.2.2).getD false) l).map fun p => (p.2.2, recD p) := fun l => isort_map l
    cases rv with
    | false => simp [ordL, e1]
    | true =>
      rw [← List.map_reverse, e1]
      simp [ordL]
  delta f8; walk_at "mini"
theorem c_ordered (k : Nat) (rs : List (Nat × Nat × D)) (rv : Bool) (dk : List Int) (hok : keysOk (rs.map fun p => p.2.2) = true) (h5 : rs.length ≤ 5) :
    callF tblE (k + 2) 8 [.fro (.list (rs.map recD)), .fro (.bool rv)] dk = some (.list ((ordL rs rv).map recD), dk) := by
  rw [call_eq (fn := f8) rfl rfl]
  exact b_ordered rs rv dk (keysBy_recs k dk rs) hok h5
noncomputable def slice (l : List Int) (a b : Nat) : List Int := (l.drop a).take (b - a)
theorem clip_min (n a : Nat) : clip n (a : Int) = min a n := by
  unfold clip
  have h1 : ¬ (a : Int) < 0 := by omega
  rw [if_neg h1]
  omega
theorem cut_all (l : List Int) (a b : Nat) : cut (l.map D.int) (some (a : Int)) (some (b : Int)) = (slice l a b).map D.int := by
  simp only [cut, slice, List.length_map, Option.elim_some, clip_min, ← List.map_drop, ← List.map_take]
  congr 1
  rcases Nat.le_total a l.length with h | h
  · rw [Nat.min_eq_left h]
    rcases Nat.le_total b l.length with h' | h'
    · rw [Nat.min_eq_left h']
    · rw [Nat.min_eq_right h', List.take_of_length_le (by simp), List.take_of_length_le (by simp; omega)]
  · rw [Nat.min_eq_right h, List.drop_length, List.drop_eq_nil_of_le h]; simp
theorem cut_head (l : List D) (b : Nat) : cut l none (some (b : Int)) = l.take b := by
  simp only [cut, Option.elim_none, Option.elim_some, clip_min, List.drop_zero, Nat.sub_zero]
  rcases Nat.le_total b l.length with h | h
  · rw [Nat.min_eq_left h]
  · rw [Nat.min_eq_right h, List.take_of_length_le (Nat.le_refl _), List.take_of_length_le h]
theorem cut_tail (l : List D) (a : Nat) : cut l (some (a : Int)) none = l.drop a := by
  simp only [cut, Option.elim_none, Option.elim_some, clip_min]
  rcases Nat.le_total a l.length with h | h
  · rw [Nat.min_eq_left h, List.take_of_length_le (by simp)]
  · rw [Nat.min_eq_right h, List.drop_length, List.drop_eq_nil_of_le h]; simp
theorem item_list {α : Type} {f : α → D} {l : List α} {a : Nat} {x : α} (h : l[a]? = some x) : itemOf (.list (l.map f)) (a : Int) = some (f x) := by
  have ha : a < l.length := by
    rcases Nat.lt_or_ge a l.length with q | q
    · exact q
    · rw [List.getElem?_eq_none q] at h; cases h
  simp [itemOf, place_nat ha, h]
noncomputable def putGo (l : List Int) : List (Nat × Nat × D) → List (Nat × Nat × D) → Nat → List Int
  | r :: rs, o :: os, a => slice l a r.1 ++ slice l o.1 o.2.1 ++ putGo l rs os r.2.1
  | _, _, a => l.drop a
theorem putGoq1 (l : List Int) (u : Nat) (r : Nat × Nat × D) (rs : List (Nat × Nat × D)) (o : Nat × Nat × D) (os : List (Nat × Nat × D)) : putGo l (r :: rs) (o :: os) u = slice l u r.fst ++ slice l o.fst o.snd.fst ++ putGo l rs os r.snd.fst := rfl
theorem putGoq2 (l : List Int) (u : List (Nat × Nat × D)) (t : Nat) : putGo l [] u t = List.drop t l := rfl
theorem putGoq3 (l : List Int) (u : List (Nat × Nat × D)) (t : Nat) : putGo l u [] t = List.drop t l := by cases u <;> rfl
theorem item0 (p : Nat × Nat × D) : itemOf (recD p) 0 = some (.int (p.1 : Nat)) := rfl
theorem item1 (p : Nat × Nat × D) : itemOf (recD p) 1 = some (.int (p.2.1 : Nat)) := rfl
theorem ext_ints {acc w : List Int} {n : Nat} (h : acc.length + w.length + n ≤ lim) : (acc.map D.int).length + (w.map D.int).length ≤ lim := by
  rw [List.length_map, List.length_map]; (first | lia | omega)
theorem put_loop {cf : CF} (l : List Int) (rs os : List (Nat × Nat × D)) (rvD : D) (dk : List Int) : ∀ (rest ros : List (Nat × Nat × D)) (i : Nat) (acc : List Int) (a : Nat) (s6 s7 s8 s9 : Slot), rs.drop i = rest → os.drop i = ros → ros.length = rest.length → acc.length + (putGo l rest ros a).length ≤ lim →
    ∃ (acc' : List Int) (a' : Nat) (s6' s7' s8' s9' : Slot), forL [6] (exs cf f10_b0) ((List.range' i rest.length).map nD) { v := [.fro (IL l), .fro (.list (rs.map recD)), .fro rvD, .fro (.list (os.map recD)), .own (acc.map D.int), .fro (nD a), s6, s7, s8, s9], dk := dk } =
      some (.next, { v := [.fro (IL l), .fro (.list (rs.map recD)), .fro rvD, .fro (.list (os.map recD)), .own (acc'.map D.int), .fro (nD a'), s6', s7', s8', s9'], dk := dk }) ∧ acc' ++ l.drop a' = acc ++ putGo l rest ros a
  | [], ros, i, acc, a, s6, s7, s8, s9, _, _, _, _ => ⟨acc, a, s6, s7, s8, s9, rfl, rfl⟩
  | r :: rest, [], i, acc, a, s6, s7, s8, s9, _, _, h, _ => nomatch h
  | r :: rest, o :: ros, i, acc, a, s6, s7, s8, s9, hd, ho, hn, hl => by
    obtain ⟨d1, d2, d3⟩ := drop_cons hd
    obtain ⟨o1, o2, o3⟩ := drop_cons ho
    have ir := item_list (f := recD) d1
    have io := item_list (f := recD) o1
    have i0 := item0 o
    have i1 := item1 o
    have c1 := cut_all l a r.1
    have c2 := cut_all l o.1 o.2.1
    simp only [putGoq1, putGoq2, putGoq3, List.length_append] at hl
    obtain ⟨acc', a', s6', s7', s8', s9', q, q1⟩ := put_loop (cf := cf) l rs os rvD dk rest ros (i + 1) (acc ++ slice l a r.1 ++ slice l o.1 o.2.1) r.2.1 (.fro (nD i)) (.fro (nD r.1)) (.fro (nD r.2.1)) (.fro r.2.2) d2 o2 (Nat.succ.inj hn) (by simp only [List.length_append]; (first | lia | omega))
    have l1 := ext_ints (acc := acc) (w := slice l a r.1) (n := 0) (by (first | lia | omega))
    have l2 := ext_ints (acc := acc ++ slice l a r.1) (w := slice l o.1 o.2.1) (n := 0) (by rw [List.length_append]; (first | lia | omega))
    refine ⟨acc', a', s6', s7', s8', s9', ?_, by rw [q1]; simp only [putGoq1, putGoq2, putGoq3, List.append_assoc]⟩
    rw [List.length_cons, List.range'_succ, List.map_cons]
    refine for_next rfl ?_ q
    rw [List.map_append] at l2 ⊢
    rw [List.map_append]
    delta f10_b0
    walk_at "mini"
theorem b_put {cf : CF} (l : List Int) (rs os : List (Nat × Nat × D)) (rv : Bool) (dk : List Int) (hord : cf 8 [.fro (.list (rs.map recD)), .fro (.bool rv)] dk = some (.list (os.map recD), dk)) (hos : os.length = rs.length) (hn : rs.length ≤ 10000) (ht : (putGo l rs os 0).length ≤ lim) :
    endR (exs cf f10.body { v := [.fro (IL l), .fro (.list (rs.map recD)), .fro (.bool rv), .unset, .unset, .unset, .unset, .unset, .unset, .unset], dk := dk }) = some (IL (putGo l rs os 0), dk) := by
  obtain ⟨acc, a, s6, s7, s8, s9, q, h1⟩ := put_loop (cf := cf) l rs os (.bool rv) dk rs os 0 [] 0 .unset .unset .unset .unset rfl rfl hos (by rw [List.length_nil]; (first | lia | omega))
  have hrg := range_d hn
  rw [List.range_eq_range'] at hrg
  have hln : lenOf (.fro (.list (rs.map recD))) = some rs.length := congrArg some (List.length_map ..)
  rw [List.nil_append] at h1
  have hl := congrArg List.length h1
  rw [List.length_append] at hl
  have a1 := add_ints (a := acc) (b := l.drop a) (by (first | lia | omega))
  have c1 := cut_tail (l.map D.int) a
  rw [← List.map_drop] at c1
  rw [f10_eq, ← h1]
  walk_at "mini"
noncomputable def keyT (folds : Bool) (l : List Int) : List Int := if folds then l.map dc else l
noncomputable def rowRec (l : List Int) (folds : Bool) (p : Nat × Nat) : Nat × Nat × D := (p.1, p.2, IL (keyT folds (slice l p.1 p.2)))
theorem rec_loop {cf : CF} (h1 : ∀ (m : List Int) (dk : List Int), cf 1 [.fro (IL m)] dk = some (IL (m.map dc), dk)) (l : List Int) (folds : Bool) (dk : List Int) : ∀ (ps : List (Nat × Nat)) (done : List (Nat × Nat × D)) (s3 s4 s5 : Slot), done.length + ps.length ≤ 1000 →
    ∃ (s3' s4' s5' : Slot), forL [3, 4] (exs cf f11_b0) (ps.map pD) { v := [.fro (IL l), .fro (.bool folds), .own (done.map recD), s3, s4, s5], dk := dk } =
      some (.next, { v := [.fro (IL l), .fro (.bool folds), .own ((done ++ ps.map (rowRec l folds)).map recD), s3', s4', s5'], dk := dk })
  | [], done, s3, s4, s5, _ => ⟨s3, s4, s5, by rw [List.map_nil, List.map_nil, List.append_nil]; rfl⟩
  | p :: ps, done, s3, s4, s5, hn => by
    rw [List.length_cons] at hn
    obtain ⟨s3', s4', s5', q⟩ := rec_loop h1 l folds dk ps (done ++ [rowRec l folds p]) (.fro (nD p.1)) (.fro (nD p.2)) (.fro (IL (slice l p.1 p.2))) (by rw [List.length_append]; show _ + 1 + _ ≤ _; (first | lia | omega))
    refine ⟨s3', s4', s5', ?_⟩
    have l1 := map_lim recD (l := done) (by (first | lia | omega))
    have hc := cut_all l p.1 p.2
    have hk := h1 (slice l p.1 p.2) dk
    rw [List.append_assoc] at q
    rw [List.map_cons, List.map_cons]
    refine for_next rfl ?_ q
    rw [← map_snoc]
    delta f11_b0
    cases folds with
    | true => walk_at "mini"
    | false => walk_at "mini"
theorem b_rowrec {cf : CF} (l : List Int) (folds : Bool) (ps : List (Nat × Nat)) (dk : List Int) (h2 : cf 2 [.fro (IL l)] dk = some (PL ps, dk)) (h1 : ∀ (m : List Int) (dk : List Int), cf 1 [.fro (IL m)] dk = some (IL (m.map dc), dk)) (hn : ps.length ≤ 1000) :
    endR (exs cf f11.body { v := [.fro (IL l), .fro (.bool folds), .unset, .unset, .unset, .unset], dk := dk }) = some (.list ((ps.map (rowRec l folds)).map recD), dk) := by
  obtain ⟨s3', s4', s5', q⟩ := rec_loop h1 l folds dk ps [] .unset .unset .unset (by rw [List.length_nil]; (first | lia | omega))
  rw [List.nil_append] at q
  rw [f11_eq]
  walk_at "mini"
noncomputable def gap (x : Int) : Bool := x == 32 || x == 9
noncomputable def ngap (x : Int) : Bool := !gap x
noncomputable def spF : List Int → Nat → Option Nat → List (Nat × Nat)
  | [], _, none => []
  | [], a, some s => [(s, a)]
  | c :: r, a, none => if gap c then spF r (a + 1) none else spF r (a + 1) (some a)
  | c :: r, a, some s => if gap c then (s, a) :: spF r (a + 1) none else spF r (a + 1) (some s)
theorem spFq1 (u : Nat) : spF [] u none = [] := rfl
theorem spFq2 (u s : Nat) : spF [] u (some s) = [(s, u)] := rfl
theorem spFq3 (u : Nat) (c : Int) (r : List Int) : spF (c :: r) u none = if gap c = true then spF r (u + 1) none else spF r (u + 1) (some u) := rfl
theorem spFq4 (u : Nat) (c : Int) (r : List Int) (s : Nat) : spF (c :: r) u (some s) = if gap c = true then (s, u) :: spF r (u + 1) none else spF r (u + 1) (some s) := rfl
theorem spF_gap : ∀ (row : List Int) (a : Nat), spF row a none = spF (row.dropWhile gap) (a + (row.takeWhile gap).length) none
  | [], a => rfl
  | c :: r, a => by
    cases h : gap c with
    | true => simp only [spFq1, spFq2, spFq3, spFq4, List.dropWhile_cons, List.takeWhile_cons, h, if_true, List.length_cons]; rw [spF_gap r (a + 1)]; congr 1; (first | lia | omega)
    | false => simp [spFq1, spFq2, spFq3, spFq4, List.dropWhile_cons, List.takeWhile_cons, h]
theorem spF_word : ∀ (row : List Int) (a s : Nat), spF row a (some s) = (s, a + (row.takeWhile ngap).length) :: spF (row.dropWhile ngap) (a + (row.takeWhile ngap).length) none
  | [], a, s => rfl
  | c :: r, a, s => by
    cases h : gap c with
    | true => simp [spFq1, spFq2, spFq3, spFq4, ngap, List.dropWhile_cons, List.takeWhile_cons, h]
    | false =>
      simp only [spFq1, spFq2, spFq3, spFq4, ngap, List.dropWhile_cons, List.takeWhile_cons, h, Bool.not_false, if_true, List.length_cons, Bool.false_eq_true, if_false]
      rw [spF_word r (a + 1) s, show a + 1 + (r.takeWhile ngap).length = a + ((r.takeWhile ngap).length + 1) by (first | lia | omega)]
theorem spF_len : ∀ (row : List Int) (a : Nat) (o : Option Nat), (spF row a o).length ≤ row.length + (if o.isSome then 1 else 0)
  | [], a, none => by simp [spFq1, spFq2, spFq3, spFq4]
  | [], a, some s => by simp [spFq1, spFq2, spFq3, spFq4]
  | c :: r, a, none => by
    have h1 := spF_len r (a + 1) none
    have h2 := spF_len r (a + 1) (some a)
    simp only [spFq1, spFq2, spFq3, spFq4]
    split
    · simp at h1 ⊢; (first | lia | omega)
    · simp at h2 ⊢; (first | lia | omega)
  | c :: r, a, some s => by
    have h1 := spF_len r (a + 1) none
    have h2 := spF_len r (a + 1) (some s)
    simp only [spFq1, spFq2, spFq3, spFq4]
    split
    · simp at h1 ⊢; (first | lia | omega)
    · simp at h2 ⊢; (first | lia | omega)
theorem drop_tw {α : Type} (p : α → Bool) (row rest : List α) : (row ++ rest).drop (row.takeWhile p).length = row.dropWhile p ++ rest := by
  have q0 := List.takeWhile_append_dropWhile (p := p) (l := row)
  generalize row.takeWhile p = x at q0 ⊢
  generalize row.dropWhile p = y at q0 ⊢
  subst q0
  rw [List.append_assoc, List.drop_left]
section
variable {cf : CF} {l : List Int} (hg : ∀ (a : Nat) (x : Int) (dk : List Int), l[a]? = some x → cf 3 [.fro (IL l), .fro (.int a)] dk = some (.bool (gap x), dk))
include hg
theorem w4_0 (rest : List Int) (s : D) (e : Nat) (s3 s5 : Slot) (dk : List Int) : ∀ (row : List Int) (a fuel : Nat), row.length < fuel → l.drop a = row ++ rest → a + row.length = e →
    whileL (ev cf f4_t0).tst (exs cf f4_b0) fuel { v := [.fro (IL l), .fro s, .fro (.int e), s3, .fro (nD a), s5], dk := dk } =
      some (.next, { v := [.fro (IL l), .fro s, .fro (.int e), s3, .fro (nD (a + (row.takeWhile gap).length)), s5], dk := dk })
  | _, _, 0, hf, _, _ => absurd hf (Nat.not_lt_zero _)
  | [], a, fuel + 1, _, _, he => by
    have h : ¬ (a : Int) < (e : Int) := by rw [← he]; exact Int.lt_irrefl _
    refine while_f ?_
    delta f4_t0
    walk_at "mini"
  | c :: r, a, fuel + 1, hf, hd, he => by
    rw [List.length_cons] at he hf
    have h : (a : Int) < (e : Int) := by (first | lia | omega)
    obtain ⟨d1, d2, d3⟩ := drop_cons (t := r ++ rest) hd
    have hg1 := hg a c dk d1
    rw [List.takeWhile_cons]
    cases hc : gap c with
    | false =>
      rw [hc] at hg1
      refine while_f ?_
      delta f4_t0
      walk_at "mini"
    | true =>
      rw [hc] at hg1
      have ih := w4_0 rest s e s3 s5 dk r (a + 1) fuel (Nat.lt_of_succ_lt_succ hf) d2 (by (first | lia | omega))
      rw [show a + 1 + (r.takeWhile gap).length = a + (c :: r.takeWhile gap).length from Nat.add_right_comm ..] at ih
      refine while_t (st1 := { v := [.fro (IL l), .fro s, .fro (.int e), s3, .fro (nD a), s5], dk := dk }) ?_ ?_ ih
      · delta f4_t0
        walk_at "mini"
      · delta f4_b0
        walk_at "mini"
theorem w4_1 (rest : List Int) (s : D) (e : Nat) (s3 s5 : Slot) (dk : List Int) : ∀ (row : List Int) (a fuel : Nat), row.length < fuel → l.drop a = row ++ rest → a + row.length = e →
    whileL (ev cf f4_t1).tst (exs cf f4_b1) fuel { v := [.fro (IL l), .fro s, .fro (.int e), s3, .fro (nD a), s5], dk := dk } =
      some (.next, { v := [.fro (IL l), .fro s, .fro (.int e), s3, .fro (nD (a + (row.takeWhile ngap).length)), s5], dk := dk })
  | _, _, 0, hf, _, _ => absurd hf (Nat.not_lt_zero _)
  | [], a, fuel + 1, _, _, he => by
    have h : ¬ (a : Int) < (e : Int) := by rw [← he]; exact Int.lt_irrefl _
    refine while_f ?_
    delta f4_t1
    walk_at "mini"
  | c :: r, a, fuel + 1, hf, hd, he => by
    rw [List.length_cons] at he hf
    have h : (a : Int) < (e : Int) := by (first | lia | omega)
    obtain ⟨d1, d2, d3⟩ := drop_cons (t := r ++ rest) hd
    have hg1 := hg a c dk d1
    have hn : ngap c = !gap c := rfl
    rw [List.takeWhile_cons, hn]
    cases hc : gap c with
    | true =>
      rw [hc] at hg1
      refine while_f ?_
      delta f4_t1
      walk_at "mini"
    | false =>
      rw [hc] at hg1
      have ih := w4_1 rest s e s3 s5 dk r (a + 1) fuel (Nat.lt_of_succ_lt_succ hf) d2 (by (first | lia | omega))
      rw [show a + 1 + (r.takeWhile ngap).length = a + (c :: r.takeWhile ngap).length from Nat.add_right_comm ..] at ih
      refine while_t (st1 := { v := [.fro (IL l), .fro s, .fro (.int e), s3, .fro (nD a), s5], dk := dk }) ?_ ?_ ih
      · delta f4_t1
        walk_at "mini"
      · delta f4_b1
        walk_at "mini"
theorem w4_2 (rest : List Int) (s : D) (e : Nat) (dk : List Int) : ∀ (n : Nat) (row : List Int) (a fuel : Nat) (fd : List (Nat × Nat)) (s5 : Slot), row.length ≤ n → n < fuel → n < 10000 → l.drop a = row ++ rest → a + row.length = e → fd.length + row.length ≤ 10000 →
    ∃ s4 s5', whileL (ev cf f4_t2).tst (exs cf f4_b2) fuel { v := [.fro (IL l), .fro s, .fro (.int e), .own (fd.map pD), .fro (nD a), s5], dk := dk } =
      some (.next, { v := [.fro (IL l), .fro s, .fro (.int e), .own ((fd ++ spF row a none).map pD), s4, s5'], dk := dk })
  | _, _, _, 0, _, _, _, hf, _, _, _, _ => absurd hf (Nat.not_lt_zero _)
  | _, [], a, fuel + 1, fd, s5, _, _, _, _, he, _ => by
    have h : ¬ (a : Int) < (e : Int) := by rw [← he]; exact Int.lt_irrefl _
    rw [spFq1, List.append_nil]
    refine ⟨.fro (nD a), s5, while_f ?_⟩
    delta f4_t2
    walk_at "mini"
  | 0, c :: r, _, _ + 1, _, _, hn, _, _, _, _, _ => absurd hn (Nat.not_succ_le_zero _)
  | n + 1, c :: r, a, fuel + 1, fd, s5, hn, hf, hn1, hd, he, hfd => by
    have hlim : (10000 : Nat) < lim := by decide
    have h : (a : Int) < (e : Int) := by rw [List.length_cons] at he; (first | lia | omega)
    have hne : 0 < (c :: r).length := Nat.succ_pos _
    generalize c :: r = row at hn hd he hfd hne ⊢
    have l0 := congrArg List.length (List.takeWhile_append_dropWhile (p := gap) (l := row))
    have l1 := congrArg List.length (List.takeWhile_append_dropWhile (p := ngap) (l := row.dropWhile gap))
    rw [List.length_append] at l0 l1
    have d1 : l.drop (a + (row.takeWhile gap).length) = row.dropWhile gap ++ rest := by
      rw [← List.drop_drop, hd]
      exact drop_tw gap row rest
    have d2 : l.drop (a + (row.takeWhile gap).length + ((row.dropWhile gap).takeWhile ngap).length) = (row.dropWhile gap).dropWhile ngap ++ rest := by
      rw [← List.drop_drop, d1]
      exact drop_tw ngap (row.dropWhile gap) rest
    have e0 := w4_0 hg rest s e (.own (fd.map pD)) s5 dk row a lim (by (first | lia | omega)) hd he
    have hsp := spF_gap row a
    generalize ha1 : a + (row.takeWhile gap).length = a1 at d1 d2 e0 hsp
    have e1 := w4_1 hg rest s e (.own (fd.map pD)) (.fro (nD a1)) dk (row.dropWhile gap) a1 lim (by (first | lia | omega)) d1 (by (first | lia | omega))
    have hsw := spF_word (row.dropWhile gap) a1 a1
    have hhd := List.head?_dropWhile_not gap row
    generalize row.dropWhile gap = row1 at d1 d2 e1 l0 l1 hsp hsw hhd
    generalize ha2 : a1 + (row1.takeWhile ngap).length = a2 at d2 e1 hsw
    rw [hsp]
    have hx : (ev cf f4_t2).tst { v := [.fro (IL l), .fro s, .fro (.int e), .own (fd.map pD), .fro (nD a), s5], dk := dk } = some (true, { v := [.fro (IL l), .fro s, .fro (.int e), .own (fd.map pD), .fro (nD a), s5], dk := dk }) := by
      delta f4_t2
      walk_at "mini"
    cases row1 with
    | nil =>
      have h21 : a2 = a1 := ha2.symm
      have hlt : ¬ (a1 : Int) < (a2 : Int) := by (first | lia | omega)
      obtain ⟨s4, s5', e2⟩ := w4_2 rest s e dk n [] a2 fuel fd (.fro (nD a1)) (Nat.zero_le _) (by (first | lia | omega)) (by (first | lia | omega)) d2 (by rw [List.length_nil] at l0 ⊢; (first | lia | omega)) (by rw [List.length_nil]; (first | lia | omega))
      refine ⟨s4, s5', while_t hx ?_ e2⟩
      delta f4_b2
      walk_at "mini"
    | cons c1 r1 =>
      have hc1 : gap c1 = false := by simpa using hhd
      have hn1 : ngap c1 = true := by rw [ngap, hc1]; rfl
      have hpos : 0 < ((c1 :: r1).takeWhile ngap).length := by rw [List.takeWhile_cons, hn1]; exact Nat.succ_pos _
      have hlt : (a1 : Int) < (a2 : Int) := by (first | lia | omega)
      have hfl := map_lim pD (l := fd) (by (first | lia | omega))
      have hs2 : spF (c1 :: r1) a1 none = spF (c1 :: r1) a1 (some a1) := by rw [spFq3, spFq4, hc1]; rfl
      rw [hs2, hsw]
      obtain ⟨s4, s5', e2⟩ := w4_2 rest s e dk n ((c1 :: r1).dropWhile ngap) a2 fuel (fd ++ [(a1, a2)]) (.fro (nD a1)) (by (first | lia | omega)) (by (first | lia | omega)) (by (first | lia | omega)) d2 (by (first | lia | omega)) (by rw [List.length_append]; show _ + 1 + _ ≤ _; (first | lia | omega))
      rw [List.append_assoc, ← map_snoc] at e2
      refine ⟨s4, s5', while_t hx ?_ e2⟩
      delta f4_b2
      walk_at "mini"
theorem b_fields (rest row : List Int) (a : Nat) (dk : List Int) (hd : l.drop a = row ++ rest) (hn : row.length < 10000) :
    endR (exs cf f4.body { v := [.fro (IL l), .fro (.int a), .fro (.int ((a + row.length : Nat) : Int)), .unset, .unset, .unset], dk := dk }) = some (PL (spF row a none), dk) := by
  obtain ⟨s4, s5, e1⟩ := w4_2 hg rest (.int a) (a + row.length) dk row.length row a lim [] .unset (Nat.le_refl _) (by unfold lim; (first | lia | omega)) hn hd rfl (by rw [List.length_nil]; (first | lia | omega))
  rw [List.nil_append] at e1
  rw [f4_eq]
  walk_at "mini"
end
theorem c_fields (k : Nat) (l rest row : List Int) (a : Nat) (dk : List Int) (hd : l.drop a = row ++ rest) (hn : row.length < 10000) :
    callF tblE (k + 2) 4 [.fro (IL l), .fro (.int a), .fro (.int ((a + row.length : Nat) : Int))] dk = some (PL (spF row a none), dk) := by
  rw [call_eq (fn := f4) rfl rfl]
  exact b_fields (fun a x dk h => c_gap k l a x dk h) rest row a dk hd hn
noncomputable def fAt {α : Type} (l : List α) (n : Int) : Option α := if n = 1 then l[0]? else if n = 2 then l[1]? else l.getLast?
noncomputable def oP : Option (Nat × Nat) → D
  | none => .none
  | some p => pD p
theorem oP_item {sp : List (Nat × Nat)} {k : Nat} {p : Nat × Nat} (h : sp[k]? = some p) : itemOf (PL sp) (k : Int) = some (pD p) := item_list h
theorem b_fieldat {cf : CF} (l : List Int) (s e : D) (sp : List (Nat × Nat)) (n : Int) (dk : List Int) (hn : n = 1 ∨ n = 2 ∨ n = -1) (h4 : cf 4 [.fro (IL l), .fro s, .fro e] dk = some (PL sp, dk)) :
    endR (exs cf f5.body { v := [.fro (IL l), .fro s, .fro e, .fro (.int n), .unset, .unset], dk := dk }) = some (oP (fAt sp n), dk) := by
  have hln : lenOf (.fro (PL sp)) = some sp.length := congrArg some (List.length_map ..)
  -- the place, as a number
  obtain ⟨pl, hpl, hcase⟩ : ∃ pl : Int, (0 < n → pl = n - 1) ∧ ((¬ 0 < n → pl = (sp.length : Int) + n)) := ⟨if 0 < n then n - 1 else (sp.length : Int) + n, fun h => if_pos h, fun h => if_neg h⟩
  have key : (0 ≤ pl ∧ pl < (sp.length : Int) ∧ ∃ p, itemOf (PL sp) pl = some (pD p) ∧ fAt sp n = some p) ∨ ((¬ 0 ≤ pl ∨ ¬ pl < (sp.length : Int)) ∧ fAt sp n = none) := by
    rcases hn with rfl | rfl | rfl
    · have := hpl (by decide)
      subst this
      cases sp with
      | nil => exact .inr ⟨.inr (by decide), rfl⟩
      | cons p r => exact .inl ⟨by decide, by rw [List.length_cons]; (first | lia | omega), p, oP_item (k := 0) rfl, rfl⟩
    · have := hpl (by decide)
      subst this
      match sp with
      | [] => exact .inr ⟨.inr (by decide), rfl⟩
      | [p] => exact .inr ⟨.inr (show ¬ (2 : Int) - 1 < ((1 : Nat) : Int) by decide), rfl⟩
      | p :: q :: r => exact .inl ⟨by decide, by rw [List.length_cons, List.length_cons]; (first | lia | omega), q, oP_item (k := 1) rfl, rfl⟩
    · have := hcase (by decide)
      subst this
      rcases List.eq_nil_or_concat sp with rfl | ⟨r, p, rfl⟩
      · exact .inr ⟨.inl (by decide), rfl⟩
      · have hl : (r.concat p).length = r.length + 1 := by rw [List.concat_eq_append, List.length_append]; rfl
        refine .inl ⟨by (first | lia | omega), by (first | lia | omega), p, ?_, ?_⟩
        · rw [hl, show (((r.length + 1 : Nat) : Int) + -1) = (r.length : Int) by (first | lia | omega)]
          exact oP_item (by rw [List.concat_eq_append, List.getElem?_concat_length])
        · rw [List.concat_eq_append]; exact List.getLast?_concat ..
  rw [f5_eq]
  have fin : ∀ (r : Option (Nat × Nat)), fAt sp n = r → (exs cf (Sms.cons (Sm.ret (Ex.ite (Ex.chain Cp.le Cp.lt (Ex.int 0) (Ex.var 5) (Ex.len (Ex.var 4))) (Ex.idxV 4 (Ex.var 5)) Ex.none)) Sms.nil) { v := [.fro (IL l), .fro s, .fro e, .fro (.int n), .fro (PL sp), .fro (.int pl)], dk := dk } = some (.ret (.fro (oP r)), { v := [.fro (IL l), .fro s, .fro e, .fro (.int n), .fro (PL sp), .fro (.int pl)], dk := dk })) →
      endR (exs cf (Sms.cons (Sm.asg 4 (Ex.call 4 (Exs.cons (Ex.var 0) (Exs.cons (Ex.var 1) (Exs.cons (Ex.var 2) Exs.nil))))) (Sms.cons (Sm.asg 5 (Ex.ite (Ex.cmp Cp.gt (Ex.var 3) (Ex.int 0)) (Ex.sub (Ex.var 3) (Ex.int 1)) (Ex.add (Ex.len (Ex.var 4)) (Ex.var 3)))) (Sms.cons (Sm.ret (Ex.ite (Ex.chain Cp.le Cp.lt (Ex.int 0) (Ex.var 5) (Ex.len (Ex.var 4))) (Ex.idxV 4 (Ex.var 5)) Ex.none)) Sms.nil)))
        { v := [.fro (IL l), .fro s, .fro e, .fro (.int n), .unset, .unset], dk := dk }) = some (oP (fAt sp n), dk) := fun r hr h => by
    rw [hr]
    refine end_ret (XS_next (st1 := { v := [.fro (IL l), .fro s, .fro e, .fro (.int n), .fro (PL sp), .unset], dk := dk }) ?_ (XS_next ?_ h)) rfl
    · walk_at "mini"
    · by_cases h0 : 0 < n
      · rw [hpl h0]
        walk_at "mini"
      · rw [hcase h0]
        walk_at "mini"
  rcases key with ⟨k1, k2, p, k3, k4⟩ | ⟨k1, k2⟩
  · refine fin _ k4 ?_
    walk_at "mini"
  · refine fin _ k2 ?_
    by_cases k3 : 0 ≤ pl
    · have k4 : ¬ pl < (sp.length : Int) := k1.resolve_left fun z => z k3
      walk_at "mini"
    · walk_at "mini"
noncomputable def numF : List Int → Int → Int
  | [], acc => acc
  | c :: r, acc => if 48 ≤ c ∧ c ≤ 57 then numF r (acc * 10 + c - 48) else acc
theorem numFq1 (u : Int) : numF [] u = u := rfl
theorem numFq2 (u c : Int) (r : List Int) : numF (c :: r) u = if 48 ≤ c ∧ c ≤ 57 then numF r (u * 10 + c - 48) else u := rfl
noncomputable def numG : List Int → Int
  | [] => 0
  | c :: r => if c = 45 then 0 - numF r 0 else numF (c :: r) 0
theorem pow_lim {k : Nat} (hk : k ≤ 12) : 10 ^ k < 2 ^ 60 := by
  have : 10 ^ k ≤ 10 ^ 12 := Nat.pow_le_pow_right (by decide) hk
  have : 10 ^ 12 < 2 ^ 60 := by decide
  (first | lia | omega)
theorem dig_next {c acc : Int} {k : Nat} (h0 : 0 ≤ acc) (hk : acc < ((10 ^ k : Nat) : Int)) (c1 : 48 ≤ c) (c2 : c ≤ 57) (hk12 : k ≤ 12) : acc.natAbs < 2 ^ 60 ∧ 0 ≤ acc * 10 + c - 48 ∧ acc * 10 + c - 48 < ((10 ^ (k + 1) : Nat) : Int) := by
  have hlk := pow_lim hk12
  have hp : ((10 ^ (k + 1) : Nat) : Int) = ((10 ^ k : Nat) : Int) * 10 := by rw [Nat.pow_succ, Int.natCast_mul]; rfl
  rw [hp]
  generalize 10 ^ k = X at hk hlk ⊢
  (first | lia | omega)
theorem mul_ten {acc : Int} (h : acc.natAbs < 2 ^ 60) : mulD (.int 10) (.int acc) = some (.fro (.int (acc * 10))) := by
  rw [Int.mul_comm]
  exact if_pos ⟨by decide, h⟩
theorem ten_mul {acc : Int} (h : acc.natAbs < 2 ^ 60) : mulD (.int acc) (.int 10) = some (.fro (.int (acc * 10))) := if_pos ⟨h, by decide⟩
theorem numF_stop {c : Int} {r : List Int} {acc : Int} (h : ¬ (48 ≤ c ∧ c ≤ 57)) : numF (c :: r) acc = acc := by rw [numFq2, if_neg h]
theorem numF_go {c : Int} {r : List Int} {acc : Int} (h1 : 48 ≤ c) (h2 : c ≤ 57) : numF (c :: r) acc = numF r (acc * 10 + c - 48) := by rw [numFq2, if_pos ⟨h1, h2⟩]
theorem w6 {cf : CF} (l rest : List Int) (s : D) (e : Nat) (s4 : Slot) (dk : List Int) : ∀ (w : List Int) (a fuel k : Nat) (acc : Int), w.length < fuel → l.drop a = w ++ rest → a + w.length = e → 0 ≤ acc → acc < ((10 ^ k : Nat) : Int) → k + w.length ≤ 12 →
    ∃ s3, whileL (ev cf f6_t0).tst (exs cf f6_b0) fuel { v := [.fro (IL l), .fro s, .fro (.int e), .fro (nD a), s4, .fro (.int acc)], dk := dk } =
      some (.next, { v := [.fro (IL l), .fro s, .fro (.int e), s3, s4, .fro (.int (numF w acc))], dk := dk })
  | _, _, 0, _, _, hf, _, _, _, _, _ => absurd hf (Nat.not_lt_zero _)
  | [], a, fuel + 1, k, acc, _, _, he, _, _, _ => by
    have h : ¬ (a : Int) < (e : Int) := by rw [← he]; exact Int.lt_irrefl _
    refine ⟨.fro (nD a), while_f ?_⟩
    delta f6_t0
    walk_at "mini"
  | c :: r, a, fuel + 1, k, acc, hf, hd, he, h0, hk, hkw => by
    rw [List.length_cons] at hf he hkw
    have h : (a : Int) < (e : Int) := by (first | lia | omega)
    obtain ⟨d1, d2, d3⟩ := drop_cons (t := r ++ rest) hd
    have hi := item_IL d1
    by_cases c1 : 48 ≤ c
    · by_cases c2 : c ≤ 57
      · obtain ⟨m1, m2, m3⟩ := dig_next h0 hk c1 c2 (by (first | lia | omega))
        have hm := mul_ten m1
        obtain ⟨s3, ih⟩ := w6 (cf := cf) l rest s e s4 dk r (a + 1) fuel (k + 1) (acc * 10 + c - 48) (by (first | lia | omega)) d2 (by (first | lia | omega)) m2 m3 (by (first | lia | omega))
        rw [numF_go c1 c2]
        refine ⟨s3, while_t (st1 := { v := [.fro (IL l), .fro s, .fro (.int e), .fro (nD a), s4, .fro (.int acc)], dk := dk }) ?_ ?_ ih⟩
        · delta f6_t0
          walk_at "mini"
        · delta f6_b0
          walk_at "mini"
      · rw [numF_stop fun z => c2 z.2]
        refine ⟨.fro (nD a), while_f ?_⟩
        delta f6_t0
        walk_at "mini"
    · rw [numF_stop fun z => c1 z.1]
      refine ⟨.fro (nD a), while_f ?_⟩
      delta f6_t0
      walk_at "mini"
theorem b_number {cf : CF} (l rest w : List Int) (a : Nat) (dk : List Int) (hd : l.drop a = w ++ rest) (hw : w.length ≤ 10) :
    endR (exs cf f6.body { v := [.fro (IL l), .fro (.int a), .fro (.int ((a + w.length : Nat) : Int)), .unset, .unset, .unset], dk := dk }) = some (.int (numG w), dk) := by
  rw [f6_eq]
  have hlim : 100 < lim := by decide
  cases w with
  | nil =>
    have h : ¬ (a : Int) < ((a + ([] : List Int).length : Nat) : Int) := Int.lt_irrefl _
    obtain ⟨s3, e1⟩ := w6 (cf := cf) l rest (.int a) a (.fro (.bool false)) dk [] a lim 0 0 (by decide) hd rfl (by decide) (by decide) (by decide)
    walk_at "mini"
  | cons c r =>
    rw [List.length_cons] at hw
    obtain ⟨d1, d2, d3⟩ := drop_cons (t := r ++ rest) hd
    have hi := item_IL d1
    have hE : a + (c :: r).length = a + 1 + r.length := by rw [List.length_cons]; (first | lia | omega)
    have hlt : (a : Int) < ((a + (c :: r).length : Nat) : Int) := by rw [hE]; (first | lia | omega)
    generalize a + (c :: r).length = E at hE hlt ⊢
    cases hc : (c == 45) with
    | true =>
      obtain ⟨s3, e1⟩ := w6 (cf := cf) l rest (.int a) E (.fro (.bool (c == 45))) dk r (a + 1) lim 0 0 (by (first | lia | omega)) d2 hE.symm (by decide) (by decide) (by (first | lia | omega))
      rw [show numG (c :: r) = 0 - numF r 0 by rw [numG, if_pos (eq_of_beq hc)]]
      walk_at "mini"
    | false =>
      obtain ⟨s3, e1⟩ := w6 (cf := cf) l rest (.int a) E (.fro (.bool (c == 45))) dk (c :: r) a lim 0 0 (by rw [List.length_cons]; (first | lia | omega)) hd (by rw [hE, List.length_cons]; (first | lia | omega)) (by decide) (by decide) (by rw [List.length_cons]; (first | lia | omega))
      rw [show numG (c :: r) = numF (c :: r) 0 by rw [numG, if_neg (ne_of_beq_false hc)]]
      walk_at "mini"
theorem c_fieldat (k : Nat) (l rest row : List Int) (a : Nat) (n : Int) (dk : List Int) (hn : n = 1 ∨ n = 2 ∨ n = -1) (hd : l.drop a = row ++ rest) (hr : row.length < 10000) :
    callF tblE (k + 3) 5 [.fro (IL l), .fro (.int a), .fro (.int ((a + row.length : Nat) : Int)), .fro (.int n)] dk = some (oP (fAt (spF row a none) n), dk) := by
  rw [call_eq (fn := f5) rfl rfl]
  exact b_fieldat l _ _ _ n dk hn (c_fields k l rest row a dk hd hr)
theorem c_number (k : Nat) (l rest w : List Int) (a : Nat) (dk : List Int) (hd : l.drop a = w ++ rest) (hw : w.length ≤ 10) :
    callF tblE (k + 1) 6 [.fro (IL l), .fro (.int a), .fro (.int ((a + w.length : Nat) : Int))] dk = some (.int (numG w), dk) := by
  rw [call_eq (fn := f6) rfl rfl]
  exact b_number l rest w a dk hd hw
noncomputable def okc (c : Int) : Prop := c = 97 ∨ c = 66 ∨ c = 98 ∨ c = 65 ∨ c = 32 ∨ c = 49 ∨ c = 50 ∨ c = 45
theorem sign_at {i : Int} (h0 : 0 ≤ i) (h8 : i < 8) : ∃ c, okc c ∧ itemOf (.list [.int 97, .int 66, .int 98, .int 65, .int 32, .int 49, .int 50, .int 45]) i = some (.int c) := by
  obtain ⟨n, rfl⟩ := Int.eq_ofNat_of_zero_le h0
  match n, h8 with
  | 0, _ => exact ⟨97, .inl rfl, rfl⟩
  | 1, _ => exact ⟨66, .inr (.inl rfl), rfl⟩
  | 2, _ => exact ⟨98, .inr (.inr (.inl rfl)), rfl⟩
  | 3, _ => exact ⟨65, .inr (.inr (.inr (.inl rfl))), rfl⟩
  | 4, _ => exact ⟨32, .inr (.inr (.inr (.inr (.inl rfl)))), rfl⟩
  | 5, _ => exact ⟨49, .inr (.inr (.inr (.inr (.inr (.inl rfl))))), rfl⟩
  | 6, _ => exact ⟨50, .inr (.inr (.inr (.inr (.inr (.inr (.inl rfl)))))), rfl⟩
  | 7, _ => exact ⟨45, .inr (.inr (.inr (.inr (.inr (.inr (.inr rfl)))))), rfl⟩
  | n + 8, h => exact absurd h (by (first | lia | omega))
theorem row_loop {cf : CF} (h18 : ∀ (n : Int) (dk : List Int), n ≠ 0 → cf 18 [.deck, .fro (.int n)] dk = some (.int (drawV dk n), drawR dk)) : ∀ (items : List D) (dk : List Int) (s1 : Slot),
    ∃ (row : List Int) (dk' : List Int) (s1' : Slot), compL (compOne 1 1 (evC cf .nil) (ev cf f19_e0)) items { v := [.deck, s1], dk := dk } = some (row.map D.int, { v := [.deck, s1'], dk := dk' }) ∧ row.length = items.length ∧ ∀ c ∈ row, okc c
  | [], dk, s1 => ⟨[], dk, s1, rfl, rfl, fun _ z => (nomatch z)⟩
  | d :: ds, dk, s1 => by
    have hd := draw_lt 8 (by decide) dk
    obtain ⟨c, hc, hi⟩ := sign_at hd.1 hd.2
    obtain ⟨row, dk', s1', e1, e2, e3⟩ := row_loop h18 ds (drawR dk) (.fro d)
    have h := h18 8 dk (by decide)
    refine ⟨c :: row, dk', s1', comp_cons ?_ e1, congrArg (· + 1) e2, List.forall_mem_cons.mpr ⟨hc, e3⟩⟩
    delta f19_e0
    walk_at "mini"
theorem b_row {cf : CF} (h18 : ∀ (n : Int) (dk : List Int), n ≠ 0 → cf 18 [.deck, .fro (.int n)] dk = some (.int (drawV dk n), drawR dk)) (dk : List Int) :
    ∃ (row : List Int) (dk' : List Int), endR (exs cf f19.body { v := [.deck], dk := dk }) = some (IL row, dk') ∧ row.length ≤ 5 ∧ ∀ c ∈ row, okc c := by
  have hd := draw_lt 6 (by decide) dk
  have h := h18 6 dk (by decide)
  generalize drawV dk 6 = x at hd h
  obtain ⟨n, rfl⟩ := Int.eq_ofNat_of_zero_le hd.1
  obtain ⟨row, dk', s1', e1, e2, e3⟩ := row_loop h18 ((List.range n).map fun i => .int (i : Nat)) (drawR dk) .unset
  rw [List.length_map, List.length_range] at e2
  have hr := range_d (n := n) (by (first | lia | omega))
  refine ⟨row, dk', ?_, by (first | lia | omega), e3⟩
  rw [f19_eq]
  walk_at "mini"
noncomputable def lfs : List Int → List Int → List (List Int)
  | [], _ => []
  | c :: r, own => if c = 32 then (if own = [] then lfs r [] else own :: lfs r []) else lfs r (own ++ [c])
theorem lfsq1 (u : List Int) : lfs [] u = [] := rfl
theorem lfsq2 (u : List Int) (c : Int) (r : List Int) : lfs (c :: r) u = if c = 32 then if u = [] then lfs r [] else u :: lfs r [] else lfs r (u ++ [c]) := rfl
noncomputable def fieldsT (row : List Int) : List (List Int) := lfs (row ++ [32]) []
theorem lfs_loop {cf : CF} (s0 : Slot) (dk : List Int) : ∀ (r : List Int) (found : List (List Int)) (own : List Int) (s3 : Slot), found.length + r.length ≤ 10000 → own.length + r.length ≤ 10000 →
    ∃ (own' : List Int) (s3' : Slot), forL [3] (exs cf f21_b0) (r.map D.int) { v := [s0, .own (found.map IL), .own (own.map D.int), s3], dk := dk } = some (.next, { v := [s0, .own ((found ++ lfs r own).map IL), .own (own'.map D.int), s3'], dk := dk })
  | [], found, own, s3, _, _ => ⟨own, s3, by rw [lfsq1, List.append_nil]; rfl⟩
  | c :: r, found, own, s3, h1, h2 => by
    rw [List.length_cons] at h1 h2
    have h1l := map_lim IL (l := found) (by (first | lia | omega))
    rw [List.map_cons]
    cases hc : (c == 32) with
    | true =>
      cases own with
      | nil =>
        obtain ⟨own', s3', q⟩ := lfs_loop (cf := cf) s0 dk r found [] (.fro (.int c)) (by (first | lia | omega)) (by rw [List.length_nil]; (first | lia | omega))
        rw [show lfs (c :: r) [] = lfs r [] by rw [lfsq2, if_pos (eq_of_beq hc), if_pos rfl]]
        refine ⟨own', s3', for_next rfl ?_ q⟩
        delta f21_b0
        walk_at "mini"
      | cons o os =>
        obtain ⟨own', s3', q⟩ := lfs_loop (cf := cf) s0 dk r (found ++ [o :: os]) [] (.fro (.int c)) (by rw [List.length_append]; show _ + 1 + _ ≤ _; (first | lia | omega)) (by rw [List.length_nil]; (first | lia | omega))
        rw [show lfs (c :: r) (o :: os) = (o :: os) :: lfs r [] by rw [lfsq2, if_pos (eq_of_beq hc), if_neg (List.cons_ne_nil _ _)]]
        rw [List.append_assoc, ← map_snoc] at q
        refine ⟨own', s3', for_next rfl ?_ q⟩
        delta f21_b0
        walk_at "mini"
    | false =>
      obtain ⟨own', s3', q⟩ := lfs_loop (cf := cf) s0 dk r found (own ++ [c]) (.fro (.int c)) (by (first | lia | omega)) (by rw [List.length_append]; show _ + 1 + _ ≤ _; (first | lia | omega))
      rw [show lfs (c :: r) own = lfs r (own ++ [c]) by rw [lfsq2, if_neg (ne_of_beq_false hc)]]
      have ha := add_ints (a := own) (b := [c]) (by show _ + 1 ≤ _; unfold lim; (first | lia | omega))
      refine ⟨own', s3', for_next rfl ?_ q⟩
      delta f21_b0
      walk_at "mini"
theorem b_lfields {cf : CF} (row : List Int) (dk : List Int) (h : row.length ≤ 1000) : endR (exs cf f21.body { v := [.fro (IL row), .unset, .unset, .unset], dk := dk }) = some (LL (fieldsT row), dk) := by
  obtain ⟨own', s3', q⟩ := lfs_loop (cf := cf) (.fro (IL row)) dk (row ++ [32]) [] [] .unset (by rw [List.length_append]; show 0 + (_ + 1) ≤ _; (first | lia | omega)) (by rw [List.length_append]; show 0 + (_ + 1) ≤ _; (first | lia | omega))
  have ha := add_ints (a := row) (b := [32]) (by show _ + 1 ≤ _; unfold lim; (first | lia | omega))
  rw [List.nil_append] at q
  rw [f21_eq]
  walk_at "mini"
theorem num_loop {cf : CF} (s0 s2 : Slot) (dk : List Int) : ∀ (r : List Int) (acc : Int) (k : Nat) (s3 : Slot), 0 ≤ acc → acc < ((10 ^ k : Nat) : Int) → k + r.length ≤ 12 →
    ∃ s3', forL [3] (exs cf f22_b0) (r.map D.int) { v := [s0, .fro (.int acc), s2, s3], dk := dk } = some (.next, { v := [s0, .fro (.int (numF r acc)), s2, s3'], dk := dk })
  | [], acc, k, s3, _, _, _ => ⟨s3, rfl⟩
  | c :: r, acc, k, s3, h0, hk, hkw => by
    rw [List.length_cons] at hkw
    rw [List.map_cons]
    by_cases c1 : 48 ≤ c
    · by_cases c2 : c ≤ 57
      · obtain ⟨m1, m2, m3⟩ := dig_next h0 hk c1 c2 (by (first | lia | omega))
        have hm := ten_mul m1
        obtain ⟨s3', q⟩ := num_loop (cf := cf) s0 s2 dk r (acc * 10 + c - 48) (k + 1) (.fro (.int c)) m2 m3 (by (first | lia | omega))
        rw [numF_go c1 c2]
        refine ⟨s3', for_next rfl ?_ q⟩
        delta f22_b0
        walk_at "mini"
      · rw [numF_stop fun z => c2 z.2]
        refine ⟨.fro (.int c), for_brk rfl ?_⟩
        delta f22_b0
        walk_at "mini"
    · rw [numF_stop fun z => c1 z.1]
      refine ⟨.fro (.int c), for_brk rfl ?_⟩
      delta f22_b0
      walk_at "mini"
theorem head_is (c : Int) (r : List Int) : D.eqv (.list ((c :: r).map D.int |>.take 1)) (.list [.int 45]) = (c == 45) := by
  show ((c == 45) && true) = _
  rw [Bool.and_true]
theorem b_lnumber {cf : CF} (w : List Int) (dk : List Int) (hw : w.length ≤ 10) : endR (exs cf f22.body { v := [.fro (IL w), .unset, .unset, .unset], dk := dk }) = some (.int (numG w), dk) := by
  rw [f22_eq]
  have ch : cut (w.map D.int) none (some 1) = (w.map D.int).take 1 := cut_head _ 1
  have ct : cut (w.map D.int) (some 1) none = (w.drop 1).map D.int := (cut_tail _ 1).trans (List.map_drop ..).symm
  cases w with
  | nil =>
    have e0 : cmpD .eq (.list ((([] : List Int).map D.int).take 1)) (.list [.int 45]) = some false := rfl
    obtain ⟨s3, q⟩ := num_loop (cf := cf) (.fro (IL [])) (.fro (IL [])) dk [] 0 0 .unset (by decide) (by decide) (by decide)
    have hb : false = false := rfl
    walk_at "mini"
  | cons c r =>
    rw [List.length_cons] at hw
    have e0 : cmpD .eq (.list (((c :: r).map D.int).take 1)) (.list [.int 45]) = some (c == 45) := eq_small rfl (head_is c r)
    cases hc : (c == 45) with
    | true =>
      obtain ⟨s3, q⟩ := num_loop (cf := cf) (.fro (IL (c :: r))) (.fro (IL r)) dk r 0 0 .unset (by decide) (by decide) (by (first | lia | omega))
      rw [show numG (c :: r) = 0 - numF r 0 by rw [numG, if_pos (eq_of_beq hc)]]
      walk_at "mini"
    | false =>
      obtain ⟨s3, q⟩ := num_loop (cf := cf) (.fro (IL (c :: r))) (.fro (IL (c :: r))) dk (c :: r) 0 0 .unset (by decide) (by decide) (by rw [List.length_cons]; (first | lia | omega))
      rw [show numG (c :: r) = numF (c :: r) 0 by rw [numG, if_neg (ne_of_beq_false hc)]]
      walk_at "mini"
noncomputable def keyF (way : Int) (folds : Bool) : Option (List Int) → D
  | none => .none
  | some w => if way = 2 then IL (w.map (sm folds)) else .int (numG w)
noncomputable def keyD (row : List Int) (way n : Int) (f l : Nat) (folds : Bool) : D :=
  if way = 4 then IL ((slice row f l).map (sm folds)) else if way < 2 then IL (row.map (sm folds)) else keyF way folds (fAt (fieldsT row) n)
theorem lfs_mem : ∀ (r own : List Int) (w : List Int), w ∈ lfs r own → w.length ≤ own.length + r.length
  | [], own, w, h => by simp [lfsq1, lfsq2] at h
  | c :: r, own, w, h => by
    simp only [lfsq1, lfsq2] at h
    split at h
    · split at h
      · have := lfs_mem r [] w h; simp at this ⊢; (first | lia | omega)
      · rcases List.mem_cons.mp h with rfl | h
        · simp
        · have := lfs_mem r [] w h; simp at this ⊢; (first | lia | omega)
    · have := lfs_mem r (own ++ [c]) w h; simp at this ⊢; (first | lia | omega)
theorem fAt_mem {α : Type} {l : List α} {n : Int} {x : α} (h : fAt l n = some x) : x ∈ l := by
  unfold fAt at h
  split at h
  · exact List.mem_of_getElem? h
  · split at h
    · exact List.mem_of_getElem? h
    · exact List.mem_of_getLast? h
theorem fAt_item {fs : List (List Int)} {n : Int} (hn : n = 1 ∨ n = 2 ∨ n = -1) :
    (((fs.length : Int) < ((n.natAbs : Nat) : Int)) ∧ fAt fs n = none) ∨ (¬ (fs.length : Int) < ((n.natAbs : Nat) : Int) ∧ ∃ w, fAt fs n = some w ∧ ((0 < n → itemOf (LL fs) (n - 1) = some (IL w)) ∧ (¬ 0 < n → itemOf (LL fs) n = some (IL w)))) := by
  rcases hn with rfl | rfl | rfl
  · cases fs with
    | nil => exact .inl ⟨by decide, rfl⟩
    | cons p r => exact .inr ⟨by rw [List.length_cons]; show ¬ _ < ((1 : Nat) : Int); (first | lia | omega), p, rfl, fun _ => item_list (f := IL) (l := p :: r) (a := 0) rfl, fun h => absurd (by decide) h⟩
  · match fs with
    | [] => exact .inl ⟨by decide, rfl⟩
    | [p] => exact .inl ⟨show ((1 : Nat) : Int) < ((2 : Nat) : Int) by decide, rfl⟩
    | p :: q :: r => exact .inr ⟨by rw [List.length_cons, List.length_cons]; show ¬ _ < ((2 : Nat) : Int); (first | lia | omega), q, rfl, fun _ => item_list (f := IL) (l := p :: q :: r) (a := 1) rfl, fun h => absurd (by decide) h⟩
  · rcases List.eq_nil_or_concat fs with rfl | ⟨r, p, rfl⟩
    · exact .inl ⟨by decide, rfl⟩
    · have hl : (r.concat p).length = r.length + 1 := by rw [List.concat_eq_append, List.length_append]; rfl
      refine .inr ⟨by rw [hl]; show ¬ _ < ((1 : Nat) : Int); (first | lia | omega), p, by rw [List.concat_eq_append]; exact List.getLast?_concat .., fun h => absurd h (by decide), fun _ => ?_⟩
      have h1 : ((r.concat p).map IL)[r.length]? = some (IL p) := by rw [List.getElem?_map, List.concat_eq_append, List.getElem?_concat_length]; rfl
      have h2 : place ((r.concat p).map IL).length (-1) = some r.length := by
        rw [List.length_map, hl]
        unfold place
        rw [if_neg (by decide), if_pos (by (first | lia | omega)), show ((-1 : Int) + ((r.length + 1 : Nat) : Int)).toNat = r.length by (first | lia | omega)]
      simp only [itemOf, h2, h1]
theorem b_key {cf : CF} (h20 : ∀ (l : List Int) (b : Bool) (dk : List Int), cf 20 [.fro (IL l), .fro (.bool b)] dk = some (IL (l.map (sm b)), dk))
    (h21 : ∀ (row : List Int) (dk : List Int), row.length ≤ 5 → cf 21 [.fro (IL row)] dk = some (LL (fieldsT row), dk))
    (h22 : ∀ (w : List Int) (dk : List Int), w.length ≤ 10 → cf 22 [.fro (IL w)] dk = some (.int (numG w), dk))
    (row : List Int) (way n : Int) (f l : Nat) (folds : Bool) (dk : List Int) (hr : row.length ≤ 5) (hn : n = 1 ∨ n = 2 ∨ n = -1) :
    endR (exs cf f23.body { v := [.fro (IL row), .fro (.int way), .fro (.int n), .fro (.tup [.int f, .int l]), .fro (.bool folds), .unset, .unset], dk := dk }) = some (keyD row way n f l folds, dk) := by
  rw [f23_eq]
  have i0 : itemOf (.tup [nD f, nD l]) 0 = some (nD f) := rfl
  have i1 : itemOf (.tup [nD f, nD l]) 1 = some (nD l) := rfl
  cases w4 : (way == 4) with
  | true =>
    have hc := cut_all row f l
    have h := h20 (slice row f l) folds dk
    rw [show keyD row way n f l folds = IL ((slice row f l).map (sm folds)) by rw [keyD, if_pos (eq_of_beq w4)]]
    walk_at "mini"
  | false =>
    by_cases w2 : way < 2
    · have h := h20 row folds dk
      rw [show keyD row way n f l folds = IL (row.map (sm folds)) by rw [keyD, if_neg (ne_of_beq_false w4), if_pos w2]]
      walk_at "mini"
    · have hf := h21 row dk hr
      rw [show keyD row way n f l folds = keyF way folds (fAt (fieldsT row) n) by rw [keyD, if_neg (ne_of_beq_false w4), if_neg w2]]
      have hm : ∀ w, fAt (fieldsT row) n = some w → w.length ≤ 10 := fun w q => by
        have := lfs_mem _ _ w (fAt_mem q)
        rw [List.length_append, List.length_nil] at this
        show _ ≤ 10
        have h1 : [(32 : Int)].length = 1 := rfl
        (first | lia | omega)
      have hln : lenOf (.fro (LL (fieldsT row))) = some (fieldsT row).length := congrArg some (List.length_map ..)
      have key := fAt_item (fs := fieldsT row) hn
      generalize fieldsT row = fs at hf hm hln key ⊢
      rcases key with ⟨k1, k2⟩ | ⟨k1, w, k2, k3, k4⟩
      · rw [k2]
        walk_at "mini"
      · rw [k2]
        have m1 := hm w k2
        have h20' := h20 w folds dk
        have h22' := h22 w dk m1
        cases wb : (way == 2) with
        | true =>
          rw [show keyF way folds (some w) = IL (w.map (sm folds)) by rw [keyF, if_pos (eq_of_beq wb)]]
          by_cases n0 : 0 < n
          · have k5 := k3 n0
            walk_at "mini"
          · have k5 := k4 n0
            walk_at "mini"
        | false =>
          rw [show keyF way folds (some w) = .int (numG w) by rw [keyF, if_neg (ne_of_beq_false wb)]]
          by_cases n0 : 0 < n
          · have k5 := k3 n0
            walk_at "mini"
          · have k5 := k4 n0
            walk_at "mini"
theorem c_lrow (k : Nat) (dk : List Int) : ∃ (row : List Int) (dk' : List Int), callF tblE (k + 2) 19 [.deck] dk = some (IL row, dk') ∧ row.length ≤ 5 ∧ ∀ c ∈ row, okc c := by
  obtain ⟨row, dk', e, h⟩ := b_row (cf := callF tblE (k + 1)) (fun n dk h => c_draw k n dk h) dk
  exact ⟨row, dk', by rw [call_eq (fn := f19) rfl rfl]; exact e, h⟩
theorem c_lfields (k : Nat) (row : List Int) (dk : List Int) (h : row.length ≤ 1000) : callF tblE (k + 1) 21 [.fro (IL row)] dk = some (LL (fieldsT row), dk) := by
  rw [call_eq (fn := f21) rfl rfl]
  exact b_lfields row dk h
theorem c_lnumber (k : Nat) (w : List Int) (dk : List Int) (h : w.length ≤ 10) : callF tblE (k + 1) 22 [.fro (IL w)] dk = some (.int (numG w), dk) := by
  rw [call_eq (fn := f22) rfl rfl]
  exact b_lnumber w dk h
theorem c_lkey (k : Nat) (row : List Int) (way n : Int) (f l : Nat) (folds : Bool) (dk : List Int) (hr : row.length ≤ 5) (hn : n = 1 ∨ n = 2 ∨ n = -1) :
    callF tblE (k + 2) 23 [.fro (IL row), .fro (.int way), .fro (.int n), .fro (.tup [.int f, .int l]), .fro (.bool folds)] dk = some (keyD row way n f l folds, dk) := by
  rw [call_eq (fn := f23) rfl rfl]
  exact b_key (fun l b dk => c_small k l b dk) (fun row dk h => c_lfields k row dk (by (first | lia | omega))) (fun w dk h => c_lnumber k w dk h) row way n f l folds dk hr hn
noncomputable def bestOf {α : Type} (bt : α → α → Bool) (x : α) (r : List α) : α := r.foldl (fun b p => if bt p b then p else b) x
noncomputable def selN {α : Type} [BEq α] (bt : α → α → Bool) : Nat → List α → List α
  | 0, _ => []
  | _ + 1, [] => []
  | n + 1, x :: r => bestOf bt x r :: selN bt n ((x :: r).erase (bestOf bt x r))
theorem selNq1 {α : Type} [BEq α] (bt : α → α → Bool) (u : List α) : selN bt 0 u = [] := rfl
theorem selNq2 {α : Type} [BEq α] (bt : α → α → Bool) (n : Nat) : selN bt (n + 1) [] = [] := rfl
theorem selNq3 {α : Type} [BEq α] (bt : α → α → Bool) (n : Nat) (x_2 : α) (r : List α) : selN bt (n + 1) (x_2 :: r) = bestOf bt x_2 r :: selN bt n ((x_2 :: r).erase (bestOf bt x_2 r)) := rfl
theorem bestOf_mem {α : Type} {bt : α → α → Bool} : ∀ (r : List α) (x : α), bestOf bt x r ∈ x :: r
  | [], x => by simp [bestOf]
  | y :: r, x => by
    unfold bestOf
    rw [List.foldl_cons]
    by_cases h : bt y x = true
    · rw [if_pos h]
      exact List.mem_cons_of_mem _ (bestOf_mem r y)
    · rw [if_neg h]
      rcases List.mem_cons.mp (bestOf_mem (bt := bt) r x) with q | q
      · unfold bestOf at q; rw [q]; simp
      · exact List.mem_cons_of_mem _ (List.mem_cons_of_mem _ q)
theorem eraseD_nat : ∀ (l : List Nat) (b : Nat), b ∈ l → eraseD (l.map nD) (nD b) = some ((l.erase b).map nD)
  | x :: r, b, h => by
    by_cases hx : x = b
    · subst hx
      simp [eraseDq1, eraseDq2, Deqvq1, Deqvq3, Deqvq4, Deqvq6, Deqvq7, Deqvq9, Deqvq11, Deqvq20, Deqvq21, Deqvq22, Deqvq23, Deqvq24, Deqvq25]
    · have hxi : (((x : Nat) : Int) == ((b : Nat) : Int)) = false := by
        rw [beq_eq_false_iff_ne]; (first | lia | omega)
      have hm : b ∈ r := by
        rcases List.mem_cons.mp h with q | q
        · exact absurd q.symm hx
        · exact q
      have hxb : (x == b) = false := by simpa using hx
      simp only [List.map_cons, eraseDq1, eraseDq2, Deqvq1, Deqvq3, Deqvq4, Deqvq6, Deqvq7, Deqvq9, Deqvq11, Deqvq20, Deqvq21, Deqvq22, Deqvq23, Deqvq24, Deqvq25, hxi, Bool.false_eq_true, if_false, eraseD_nat r b hm, List.erase_cons, hxb]
noncomputable def ltK (ks : List D) (i j : Nat) : Bool := (plt (ks.getD i .none) (ks.getD j .none)).getD false
noncomputable def btK (ks : List D) (rv : Bool) (i j : Nat) : Bool := if rv then ltK ks j i else ltK ks i j
theorem intsOf_al2 : ∀ (l : List D), l.all isInt = true → ∃ m, intsOf l = some m
  | [], _ => ⟨[], rfl⟩
  | .int i :: l, h => by
    obtain ⟨m, e⟩ := intsOf_al2 l (by simpa [isInt] using h)
    exact ⟨i :: m, by simp [intsOfq1, intsOfq2, e]⟩
  | .none :: l, h => by simp [isInt] at h
  | .bool _ :: l, h => by simp [isInt] at h
  | .list _ :: l, h => by simp [isInt] at h
  | .tup _ :: l, h => by simp [isInt] at h
theorem plt_some {ks : List D} (h : keysOk ks = true) {a b : D} (ha : a ∈ ks) (hb : b ∈ ks) : plt a b = some ((plt a b).getD false) := by
  unfold keysOk at h
  rcases Bool.or_eq_true _ _ ▸ h with q | q
  · have h1 := List.all_eq_true.mp q a ha
    have h2 := List.all_eq_true.mp q b hb
    cases a <;> simp only [isInt, Bool.false_eq_true] at h1
    cases b <;> simp only [isInt, Bool.false_eq_true] at h2
    simp [plt]
  · have h1 := List.all_eq_true.mp q a ha
    have h2 := List.all_eq_true.mp q b hb
    cases a <;> simp only [isInts, Bool.false_eq_true] at h1
    cases b <;> simp only [isInts, Bool.false_eq_true] at h2
    obtain ⟨m1, e1⟩ := intsOf_al2 _ h1
    obtain ⟨m2, e2⟩ := intsOf_al2 _ h2
    simp [plt, e1, e2]
theorem plt_at {ks : List D} (h : keysOk ks = true) {i j : Nat} {a b : D} (ha : ks[i]? = some a) (hb : ks[j]? = some b) : plt a b = some (ltK ks i j) := by
  rw [plt_some h (List.mem_of_getElem? ha) (List.mem_of_getElem? hb)]
  simp [ltK, List.getD, ha, hb]
theorem item_at {ks : List D} {i : Nat} {a : D} (h : ks[i]? = some a) : itemOf (.list ks) ((i : Nat) : Int) = some a := by
  have := item_list (f := fun d : D => d) h
  simpa using this
theorem best_loop {cf : CF} (ks : List D) (hk : keysOk ks = true) (rv : Bool) (s2 s3 : Slot) (dk : List Int) : ∀ (r : List Nat) (b : Nat) (s5 : Slot), b < ks.length → (∀ p ∈ r, p < ks.length) →
    ∃ s5', forL [5] (exs cf f24_b0) (r.map nD) { v := [.fro (.list ks), .fro (.bool rv), s2, s3, .fro (nD b), s5], dk := dk } = some (.next, { v := [.fro (.list ks), .fro (.bool rv), s2, s3, .fro (nD (bestOf (btK ks rv) b r)), s5'], dk := dk })
  | [], b, s5, _, _ => ⟨s5, rfl⟩
  | p :: r, b, s5, hb, hp => by
    have hp0 := hp p (List.mem_cons_self ..)
    have e1 : ks[p]? = some ks[p] := List.getElem?_eq_getElem hp0
    have e2 : ks[b]? = some ks[b] := List.getElem?_eq_getElem hb
    have i1 := item_at e1
    have i2 := item_at e2
    have l1 := plt_at hk e1 e2
    have l2 := plt_at hk e2 e1
    have hnext : bestOf (btK ks rv) b (p :: r) = bestOf (btK ks rv) (if btK ks rv p b then p else b) r := rfl
    rw [List.map_cons, hnext]
    have hbt : btK ks rv p b = if rv then ltK ks b p else ltK ks p b := rfl
    cases hh : btK ks rv p b with
    | true =>
      obtain ⟨s5', q⟩ := best_loop (cf := cf) ks hk rv s2 s3 dk r p (.fro (nD p)) hp0 fun q h => hp q (List.mem_cons_of_mem _ h)
      refine ⟨s5', for_next rfl ?_ q⟩
      rw [hh] at hbt
      delta f24_b0
      cases rv with
      | true =>
        have hbt' : ltK ks b p = true := hbt.symm
        walk_at "mini"
      | false =>
        have hbt' : ltK ks p b = true := hbt.symm
        walk_at "mini"
    | false =>
      obtain ⟨s5', q⟩ := best_loop (cf := cf) ks hk rv s2 s3 dk r b (.fro (nD p)) hb fun q h => hp q (List.mem_cons_of_mem _ h)
      refine ⟨s5', for_next rfl ?_ q⟩
      rw [hh] at hbt
      delta f24_b0
      cases rv with
      | true =>
        have hbt' : ltK ks b p = false := hbt.symm
        walk_at "mini"
      | false =>
        have hbt' : ltK ks p b = false := hbt.symm
        walk_at "mini"
theorem rem_nat {l : List Nat} {b : Nat} (hm : b ∈ l) : remS (.own (l.map nD)) (nD b) = some (.own ((l.erase b).map nD)) := by
  have hall : (l.map nD).all isInt = true := List.all_eq_true.mpr fun d hd => by
    obtain ⟨x, _, rfl⟩ := List.mem_map.mp hd
    rfl
  have hi : isInt (nD b) = true := rfl
  simp only [remS, hall, hi, eraseD_nat l b hm, Bool.and_self, if_true]
theorem order_loop {cf : CF} (ks : List D) (hk : keysOk ks = true) (rv : Bool) (dk : List Int) : ∀ (n : Nat) (left found : List Nat) (fuel : Nat) (s4 s5 : Slot), left.length = n → n < fuel → found.length + n ≤ 10000 → (∀ p ∈ left, p < ks.length) →
    ∃ s4' s5', whileL (ev cf f24_t0).tst (exs cf f24_b1) fuel { v := [.fro (.list ks), .fro (.bool rv), .own (left.map nD), .own (found.map nD), s4, s5], dk := dk } =
      some (.next, { v := [.fro (.list ks), .fro (.bool rv), .own [], .own ((found ++ selN (btK ks rv) n left).map nD), s4', s5'], dk := dk })
  | _, _, _, 0, _, _, _, hf, _, _ => absurd hf (Nat.not_lt_zero _)
  | 0, [], found, fuel + 1, s4, s5, _, _, _, _ => by
    refine ⟨s4, s5, ?_⟩
    rw [selNq1, List.append_nil]
    refine while_f ?_
    delta f24_t0
    walk_at "mini"
  | 0, x :: r, _, _, _, _, h, _, _, _ => nomatch h
  | n + 1, [], _, _, _, _, h, _, _, _ => nomatch h
  | n + 1, x :: r, found, fuel + 1, s4, s5, hn, hf, hfd, hp => by
    obtain ⟨s5', q⟩ := best_loop (cf := cf) ks hk rv (.own ((x :: r).map nD)) (.own (found.map nD)) dk r x s5 (hp x (List.mem_cons_self ..)) fun q h => hp q (List.mem_cons_of_mem _ h)
    have hm := bestOf_mem (bt := btK ks rv) r x
    rw [selNq3]
    generalize bestOf (btK ks rv) x r = b at q hm ⊢
    have hfl := map_lim nD (l := found) (by (first | lia | omega))
    have c1 : cut ((x :: r).map nD) (some 1) none = r.map nD := cut_tail _ 1
    have i0 : itemOf (.list ((x :: r).map nD)) 0 = some (nD x) := item_list (f := nD) (l := x :: r) (a := 0) rfl
    have hrem := rem_nat hm
    obtain ⟨s4'', s5'', q2⟩ := order_loop (cf := cf) ks hk rv dk n ((x :: r).erase b) (found ++ [b]) fuel (.fro (nD b)) s5' (by rw [List.length_erase_of_mem hm, hn]; rfl) (by (first | lia | omega)) (by rw [List.length_append]; show _ + 1 + _ ≤ _; (first | lia | omega)) fun q h => hp q (List.mem_of_mem_erase h)
    rw [List.append_assoc, ← map_snoc] at q2
    refine ⟨s4'', s5'', while_t (st1 := { v := [.fro (.list ks), .fro (.bool rv), .own ((x :: r).map nD), .own (found.map nD), s4, s5], dk := dk }) ?_ ?_ q2⟩
    · delta f24_t0
      walk_at "mini"
    · delta f24_b1
      walk_at "mini"
theorem b_order {cf : CF} (ks : List D) (hk : keysOk ks = true) (rv : Bool) (dk : List Int) (hn : ks.length ≤ 1000) :
    endR (exs cf f24.body { v := [.fro (.list ks), .fro (.bool rv), .unset, .unset, .unset, .unset], dk := dk }) = some (NL (selN (btK ks rv) ks.length (List.range ks.length)), dk) := by
  obtain ⟨s4, s5, q⟩ := order_loop (cf := cf) ks hk rv dk ks.length (List.range ks.length) [] lim .unset .unset List.length_range (by unfold lim; (first | lia | omega)) (by rw [List.length_nil]; (first | lia | omega)) fun p h => List.mem_range.mp h
  have hr := range_d (n := ks.length) (by (first | lia | omega))
  rw [List.nil_append] at q
  rw [f24_eq]
  walk_at "mini"
theorem c_order (k : Nat) (ks : List D) (hk : keysOk ks = true) (rv : Bool) (dk : List Int) (hn : ks.length ≤ 1000) :
    callF tblE (k + 1) 24 [.fro (.list ks), .fro (.bool rv)] dk = some (NL (selN (btK ks rv) ks.length (List.range ks.length)), dk) := by
  rw [call_eq (fn := f24) rfl rfl]
  exact b_order ks hk rv dk hn
noncomputable def blk (row : List Int) : Bool := (fieldsT row).isEmpty
noncomputable def grpGo : List (List Int) → List (List (List Int)) → List (List Int) → Bool → List (List (List Int))
  | [], done, last, _ => done ++ [last]
  | r :: rs, done, last, op => if op && !blk r then grpGo rs done (last ++ [r]) true else grpGo rs (done ++ [last]) [r] (!blk r)
theorem grpGoq1 (u : List (List (List Int))) (u1 : List (List Int)) (u2 : Bool) : grpGo [] u u1 u2 = u ++ [u1] := rfl
theorem grpGoq2 (u : List (List (List Int))) (u1 : List (List Int)) (u2 : Bool) (r : List Int) (rs : List (List Int)) : grpGo (r :: rs) u u1 u2 = if (u2 && !blk r) = true then grpGo rs u (u1 ++ [r]) true else grpGo rs (u ++ [u1]) [r] !blk r := rfl
noncomputable def groupsT : List (List Int) → List (List (List Int))
  | [] => []
  | r :: rs => grpGo rs [] [r] (!blk r)
noncomputable abbrev GL (gs : List (List (List Int))) : D := .list (gs.map LL)
theorem blk_eqv (r : List Int) : D.eqv (LL (fieldsT r)) (.list []) = blk r := by
  unfold blk
  cases fieldsT r <;> rfl
theorem grp_loop {cf : CF} (h21 : ∀ (row : List Int) (dk : List Int), row.length ≤ 5 → cf 21 [.fro (IL row)] dk = some (LL (fieldsT row), dk)) (s0 : Slot) (dk : List Int) : ∀ (rs : List (List Int)) (done : List (List (List Int))) (last : List (List Int)) (op : Bool) (s3 s4 : Slot),
    (∀ r ∈ rs, r.length ≤ 5) → done.length + rs.length ≤ 500 → last.length + rs.length ≤ 500 →
    ∃ (done' : List (List (List Int))) (last' : List (List Int)) (s2 s3' s4' : Slot), forL [3] (exs cf f26_b0) (rs.map IL) { v := [s0, .nest (done.map LL) (last.map IL), .fro (.bool op), s3, s4], dk := dk } =
      some (.next, { v := [s0, .nest (done'.map LL) (last'.map IL), s2, s3', s4'], dk := dk }) ∧ grpGo rs done last op = done' ++ [last']
  | [], done, last, op, s3, s4, _, _, _ => ⟨done, last, .fro (.bool op), s3, s4, rfl, rfl⟩
  | r :: rs, done, last, op, s3, s4, hr, hn, hn2 => by
    have h1 := h21 r dk (hr r (List.mem_cons_self ..))
    have hb := blk_eqv r
    rw [List.length_cons] at hn hn2
    have l1 := map_lim IL (l := last) (by (first | lia | omega))
    have l2 : (done.map LL).length + 1 < lim := by rw [List.length_map]; unfold lim; (first | lia | omega)
    have p1 : appLS (.nest (done.map LL) (last.map IL)) (.fro (IL r)) = some (.nest (done.map LL) ((last ++ [r]).map IL)) := by
      rw [← map_snoc]; exact if_pos l1
    have p2 : appNS (.nest (done.map LL) (last.map IL)) (.own [IL r]) = some (.nest ((done ++ [last]).map LL) ([r].map IL)) := by
      rw [← map_snoc]; exact if_pos l2
    rw [List.map_cons]
    cases hop : (op && !blk r) with
    | true =>
      obtain ⟨ho, hbk⟩ := Bool.and_eq_true _ _ ▸ hop
      have hbk' : blk r = false := by cases h : blk r with | false => rfl | true => rw [h] at hbk; cases hbk
      obtain ⟨done', last', s2, s3', s4', q, q2⟩ := grp_loop h21 s0 dk rs done (last ++ [r]) true (.fro (IL r)) (.fro (.bool (blk r))) (fun q h => hr q (List.mem_cons_of_mem _ h)) (by (first | lia | omega)) (by rw [List.length_append]; show _ + 1 + _ ≤ _; (first | lia | omega))
      refine ⟨done', last', s2, s3', s4', for_next (st1 := { v := [s0, .nest (done.map LL) ((last ++ [r]).map IL), .fro (.bool (!blk r)), .fro (IL r), .fro (.bool (blk r))], dk := dk }) rfl ?_ (by rw [hbk'] at q ⊢; exact q), by rw [grpGoq2, hop, if_pos rfl, q2]⟩
      delta f26_b0
      walk_at "mini"
    | false =>
      obtain ⟨done', last', s2, s3', s4', q, q2⟩ := grp_loop h21 s0 dk rs (done ++ [last]) [r] (!blk r) (.fro (IL r)) (.fro (.bool (blk r))) (fun q h => hr q (List.mem_cons_of_mem _ h)) (by rw [List.length_append]; show _ + 1 + _ ≤ _; (first | lia | omega)) (by show 1 + _ ≤ _; (first | lia | omega))
      refine ⟨done', last', s2, s3', s4', for_next rfl ?_ q, by rw [grpGoq2, hop, if_neg Bool.false_ne_true, q2]⟩
      delta f26_b0
      cases op with
      | false => walk_at "mini"
      | true =>
        have hbk : blk r = true := by cases h : blk r with | true => rfl | false => rw [h] at hop; cases hop
        have hbk2 : (!blk r) = false := by rw [hbk]; rfl
        walk_at "mini"
theorem b_groups {cf : CF} (h21 : ∀ (row : List Int) (dk : List Int), row.length ≤ 5 → cf 21 [.fro (IL row)] dk = some (LL (fieldsT row), dk)) (rows : List (List Int)) (dk : List Int) (hne : rows ≠ []) (hr : ∀ r ∈ rows, r.length ≤ 5) (hn : rows.length ≤ 5) :
    endR (exs cf f26.body { v := [.fro (LL rows), .unset, .unset, .unset, .unset], dk := dk }) = some (GL (groupsT rows), dk) := by
  cases rows with
  | nil => exact absurd rfl hne
  | cons r rs =>
    rw [List.length_cons] at hn
    obtain ⟨done', last', s2, s3', s4', q, q2⟩ := grp_loop h21 (.fro (LL (r :: rs))) dk rs [] [r] (!blk r) (.fro (IL r)) (.fro (.bool (blk r))) (fun q h => hr q (List.mem_cons_of_mem _ h)) (by rw [List.length_nil]; (first | lia | omega)) (by show 1 + _ ≤ _; (first | lia | omega))
    have h1 := h21 r dk (hr r (List.mem_cons_self ..))
    have hb := blk_eqv r
    have p2 : appNS (.own []) (.own [IL r]) = some (.nest [] [IL r]) := rfl
    have hl : forL [3] (exs cf f26_b0) ((r :: rs).map IL) { v := [.fro (LL (r :: rs)), .own [], .fro (.bool false), .unset, .unset], dk := dk } = _ := for_next (st1 := { v := [.fro (LL (r :: rs)), .nest [] [IL r], .fro (.bool (!blk r)), .fro (IL r), .fro (.bool (blk r))], dk := dk }) rfl (by
      delta f26_b0
      walk_at "mini") q
    have hg : GL (groupsT (r :: rs)) = .list (done'.map LL ++ [.list (last'.map IL)]) := by
      rw [GL, show groupsT (r :: rs) = done' ++ [last'] from q2, ← map_snoc]
    rw [f26_eq, hg]
    walk_at "mini"
theorem c_groups (k : Nat) (rows : List (List Int)) (dk : List Int) (hne : rows ≠ []) (hr : ∀ r ∈ rows, r.length ≤ 5) (hn : rows.length ≤ 5) :
    callF tblE (k + 2) 26 [.fro (LL rows)] dk = some (GL (groupsT rows), dk) := by
  rw [call_eq (fn := f26) rfl rfl]
  exact b_groups (fun row dk h => c_lfields k row dk (by (first | lia | omega))) rows dk hne hr hn
theorem eqvs_ints : ∀ (a b : List Int), D.eqvs (a.map D.int) (b.map D.int) = (a == b)
  | [], [] => rfl
  | [], _ :: _ => rfl
  | _ :: _, [] => rfl
  | x :: a, y :: b => by
    simp only [List.map_cons, Deqvsq1, Deqvsq3, Deqvsq4, Deqvsq5, Deqvq1, Deqvq3, Deqvq4, Deqvq6, Deqvq7, Deqvq9, Deqvq11, Deqvq20, Deqvq21, Deqvq22, Deqvq23, Deqvq24, Deqvq25, eqvs_ints a b]
    rfl
theorem eqv_IL (a b : List Int) : D.eqv (IL a) (IL b) = (a == b) := by simp [Deqvq1, Deqvq3, Deqvq4, Deqvq6, Deqvq7, Deqvq9, Deqvq11, Deqvq20, Deqvq21, Deqvq22, Deqvq23, Deqvq24, Deqvq25, eqvs_ints]
theorem any_IL (l : List (List Int)) (r : List Int) : (l.map IL).any (fun y => D.eqv y (IL r)) = l.contains r := by
  induction l with
  | nil => rfl
  | cons a l ih =>
    rw [List.map_cons, List.any_cons, ih, List.contains_cons, eqv_IL]
    congr 1
    rw [Bool.eq_iff_iff, beq_iff_eq, beq_iff_eq]
    exact eq_comm
theorem small_IL (r : List Int) : small (IL r) = true := by simp [small, isInt]
theorem clip_m1 (n : Nat) : clip n (-1) = n - 1 := by
  unfold clip
  rw [if_pos (by decide)]
  cases n with
  | zero => rfl
  | succ n =>
    rw [show (-1 : Int) + ((n + 1 : Nat) : Int) = (n : Int) by (first | lia | omega), Int.min_eq_left (Int.ofNat_le.mpr (Nat.le_succ n)), Int.max_eq_right (Int.natCast_nonneg n)]
    rfl
theorem clip_m2 (n : Nat) : clip n (-2) = n - 2 := by
  unfold clip
  rw [if_pos (by decide)]
  match n with
  | 0 => rfl
  | 1 => rfl
  | n + 2 =>
    rw [show (-2 : Int) + ((n + 2 : Nat) : Int) = (n : Int) by (first | lia | omega), Int.min_eq_left (Int.ofNat_le.mpr (Nat.le_add_right n 2)), Int.max_eq_right (Int.natCast_nonneg n)]
    rfl
theorem cut_last (l : List D) : cut l (some (-1)) none = l.drop (l.length - 1) := by
  simp only [cut, Option.elim_none, Option.elim_some, clip_m1]
  rw [List.take_of_length_le]
  rw [List.length_drop]
  exact Nat.le_refl _
noncomputable def woGo (nx : Bool) : List (List Int) → List (List Int) → List (List Int)
  | [], found => found
  | r :: rs, found => if (if nx then found.drop (found.length - 1) else found).contains r then woGo nx rs found else woGo nx rs (found ++ [r])
theorem woGoq1 (nx : Bool) (u : List (List Int)) : woGo nx [] u = u := rfl
theorem woGoq2 (nx : Bool) (u : List (List Int)) (r : List Int) (rs : List (List Int)) : woGo nx (r :: rs) u = if (if nx = true then List.drop (u.length - 1) u else u).contains r = true then woGo nx rs u else woGo nx rs (u ++ [r]) := rfl
theorem inn_IL {ng : Bool} {d : D} {s : Slot} {l : List D} {b : Bool} (hs : small d = true) (hp : s.peek = some (.list l)) (hd : ∀ ks, s ≠ .dct ks) (ha : (l.any fun y => D.eqv y d) = b) : innS ng d s = some (.fro (.bool (if ng then !b else b))) := by
  cases s with
  | dct ks => exact absurd rfl (hd ks)
  | _ => simp only [innS, hs, hp, if_true, seqD, ha, Option.bind_eq_bind, Option.bind_some]
theorem wo_loop {cf : CF} (s0 s1 : Slot) (nx : Bool) (dk : List Int) : ∀ (rs found : List (List Int)) (s4 : Slot), found.length + rs.length ≤ 1000 →
    ∃ s4', forL [4] (exs cf f29_b0) (rs.map IL) { v := [s0, s1, .fro (.bool nx), .own (found.map IL), s4], dk := dk } = some (.next, { v := [s0, s1, .fro (.bool nx), .own ((woGo nx rs found).map IL), s4'], dk := dk })
  | [], found, s4, _ => ⟨s4, rfl⟩
  | r :: rs, found, s4, hn => by
    rw [List.length_cons] at hn
    have l1 := map_lim IL (l := found) (by (first | lia | omega))
    have hs := small_IL r
    have ha := any_IL (if nx then found.drop (found.length - 1) else found) r
    have hc0 : cut (found.map IL) (some (-1)) none = (found.drop (found.length - 1)).map IL := by rw [cut_last, List.length_map, List.map_drop]
    rw [List.map_cons, woGoq2]
    generalize hh : (if nx then found.drop (found.length - 1) else found).contains r = b at ha ⊢
    -- the test: not in
    have ht : (ev cf (Ex.inn true (Ex.var 4) (Ex.ite (Ex.var 2) (Ex.sliceV 3 (Ox.some (Ex.neg (Ex.int 1))) Ox.none) (Ex.var 3)))).tst { v := [s0, s1, .fro (.bool nx), .own (found.map IL), .fro (IL r)], dk := dk } = some (!b, { v := [s0, s1, .fro (.bool nx), .own (found.map IL), .fro (IL r)], dk := dk }) := by
      cases nx with
      | true =>
        have ho := inn_IL (ng := true) (s := .fro (.list ((found.drop (found.length - 1)).map IL))) hs rfl (fun _ z => nomatch z) ha
        walk_at "mini"
      | false =>
        have ho := inn_IL (ng := true) (s := .own (found.map IL)) hs rfl (fun _ z => nomatch z) ha
        walk_at "mini"
    cases b with
    | true =>
      obtain ⟨s4', q⟩ := wo_loop (cf := cf) s0 s1 nx dk rs found (.fro (IL r)) (by (first | lia | omega))
      exact ⟨s4', for_next rfl (XS_next (X_if_f ht rfl XS_nil) XS_nil) q⟩
    | false =>
      obtain ⟨s4', q⟩ := wo_loop (cf := cf) s0 s1 nx dk rs (found ++ [r]) (.fro (IL r)) (by rw [List.length_append]; show _ + 1 + _ ≤ _; (first | lia | omega))
      rw [← map_snoc] at q
      exact ⟨s4', for_next rfl (XS_next (X_if_t ht rfl (XS_next (X_append rfl (F_fro rfl) rfl l1) XS_nil)) XS_nil) q⟩
noncomputable def withoutL (rows : List (List Int)) (ls nx : Bool) : List (List Int) := if ls then (woGo nx rows.reverse []).reverse else woGo nx rows []
theorem b_lwithout {cf : CF} (rows : List (List Int)) (ls nx : Bool) (dk : List Int) (hn : rows.length ≤ 1000) :
    endR (exs cf f29.body { v := [.fro (LL rows), .fro (.bool ls), .fro (.bool nx), .unset, .unset], dk := dk }) = some (LL (withoutL rows ls nx), dk) := by
  rw [f29_eq]
  cases ls with
  | true =>
    obtain ⟨s4', q⟩ := wo_loop (cf := cf) (.fro (LL rows)) (.fro (.bool true)) nx dk rows.reverse [] .unset (by rw [List.length_reverse, List.length_nil]; (first | lia | omega))
    rw [List.map_reverse] at q
    rw [show LL (withoutL rows true nx) = .list ((woGo nx rows.reverse []).map IL).reverse by rw [← List.map_reverse]; rfl]
    walk_at "mini"
  | false =>
    obtain ⟨s4', q⟩ := wo_loop (cf := cf) (.fro (LL rows)) (.fro (.bool false)) nx dk rows [] .unset (by rw [List.length_nil]; (first | lia | omega))
    walk_at "mini"
noncomputable abbrev rec0 (p : Nat × Nat) : Nat × Nat × D := (p.1, p.2, .none)
theorem pair0 (p : Nat × Nat) : itemOf (pD p) 0 = some (.int (p.1 : Nat)) := rfl
theorem pair1 (p : Nat × Nat) : itemOf (pD p) 1 = some (.int (p.2 : Nat)) := rfl
theorem putGo0 (l : List Int) (p o : Nat × Nat) (rs os : List (Nat × Nat × D)) (a : Nat) : putGo l (rec0 p :: rs) (rec0 o :: os) a = slice l a p.1 ++ slice l o.1 o.2 ++ putGo l rs os p.2 := rfl
theorem turn_loop {cf : CF} (l : List Int) (ps : List (Nat × Nat)) (dk : List Int) : ∀ (rest : List (Nat × Nat)) (i : Nat) (acc : List Int) (a : Nat) (s4 s5 s6 s7 : Slot), ps.drop i = rest → acc.length + (putGo l (rest.map rec0) ((ps.reverse.drop i).map rec0) a).length ≤ lim →
    ∃ (acc' : List Int) (a' : Nat) (s4' s5' s6' s7' : Slot), forL [4] (exs cf f16_b0) ((List.range' i rest.length).map nD) { v := [.fro (IL l), .fro (PL ps), .own (acc.map D.int), .fro (nD a), s4, s5, s6, s7], dk := dk } =
      some (.next, { v := [.fro (IL l), .fro (PL ps), .own (acc'.map D.int), .fro (nD a'), s4', s5', s6', s7'], dk := dk }) ∧ acc' ++ l.drop a' = acc ++ putGo l (rest.map rec0) ((ps.reverse.drop i).map rec0) a
  | [], i, acc, a, s4, s5, s6, s7, _, _ => ⟨acc, a, s4, s5, s6, s7, rfl, by rw [List.map_nil, putGoq2]⟩
  | p :: rest, i, acc, a, s4, s5, s6, s7, hd, hl => by
    obtain ⟨d1, d2, d3⟩ := drop_cons hd
    have hr : i < ps.reverse.length := by rw [List.length_reverse]; exact d3
    obtain ⟨o, ros, dO⟩ : ∃ o ros, ps.reverse.drop i = o :: ros := ⟨_, _, List.drop_eq_getElem_cons hr⟩
    obtain ⟨o1, o2, _⟩ := drop_cons dO
    rw [← o2] at dO
    rw [dO, List.map_cons, List.map_cons, putGo0] at hl
    rw [dO, List.map_cons, List.map_cons, putGo0]
    rw [List.length_append, List.length_append] at hl
    obtain ⟨acc', a', s4', s5', s6', s7', q, q2⟩ := turn_loop (cf := cf) l ps dk rest (i + 1) (acc ++ slice l a p.1 ++ slice l o.1 o.2) p.2 (.fro (nD i)) (.fro (nD p.1)) (.fro (nD p.2)) (.fro (pD o)) d2 (by rw [List.length_append, List.length_append]; (first | lia | omega))
    refine ⟨acc', a', s4', s5', s6', s7', ?_, by rw [q2, List.append_assoc, List.append_assoc, ← List.append_assoc (slice l a _)]⟩
    have ip := item_list (f := pD) d1
    have io : itemOf (PL ps) ((ps.length : Int) - 1 - (i : Int)) = some (pD o) := by
      rw [show ((ps.length : Int) - 1 - (i : Int)) = ((ps.length - 1 - i : Nat) : Int) by (first | lia | omega)]
      rw [List.getElem?_reverse d3] at o1
      exact item_list (f := pD) o1
    have hln : lenOf (.fro (PL ps)) = some ps.length := congrArg some (List.length_map ..)
    have l1 := ext_ints (acc := acc) (w := slice l a p.1) (n := 0) (by (first | lia | omega))
    have l2 := ext_ints (acc := acc ++ slice l a p.1) (w := slice l o.1 o.2) (n := 0) (by rw [List.length_append]; (first | lia | omega))
    have p0 := pair0 o
    have p1 := pair1 o
    have c1 := cut_all l a p.1
    have c2 := cut_all l o.1 o.2
    rw [List.map_append] at l2
    rw [List.map_append, List.map_append] at q
    refine for_next rfl ?_ q
    delta f16_b0
    walk_at "mini"
noncomputable def turnT (l : List Int) (ps : List (Nat × Nat)) : List Int := putGo l (ps.map rec0) (ps.reverse.map rec0) 0
theorem b_turned {cf : CF} (l : List Int) (ps : List (Nat × Nat)) (dk : List Int) (h2 : cf 2 [.fro (IL l)] dk = some (PL ps, dk)) (hn : ps.length ≤ 1000) (ht : (turnT l ps).length ≤ lim) :
    endR (exs cf f16.body { v := [.fro (IL l), .unset, .unset, .unset, .unset, .unset, .unset, .unset], dk := dk }) = some (IL (turnT l ps), dk) := by
  obtain ⟨acc, a, s4', s5', s6', s7', q, q2⟩ := turn_loop (cf := cf) l ps dk ps 0 [] 0 .unset .unset .unset .unset rfl (by rw [List.length_nil, Nat.zero_add]; exact ht)
  have hr := range_d (n := ps.length) (by (first | lia | omega))
  rw [List.range_eq_range'] at hr
  have hln : lenOf (.fro (PL ps)) = some ps.length := congrArg some (List.length_map ..)
  have hT : turnT l ps = acc ++ l.drop a := q2.symm
  have hl := congrArg List.length hT
  rw [List.length_append] at hl
  have a1 := add_ints (a := acc) (b := l.drop a) (by (first | lia | omega))
  have c1 := cut_tail (l.map D.int) a
  rw [← List.map_drop] at c1
  rw [f16_eq, hT]
  walk_at "mini"
theorem c_lwithout (k : Nat) (rows : List (List Int)) (ls nx : Bool) (dk : List Int) (hn : rows.length ≤ 1000) :
    callF tblE (k + 1) 29 [.fro (LL rows), .fro (.bool ls), .fro (.bool nx)] dk = some (LL (withoutL rows ls nx), dk) := by
  rw [call_eq (fn := f29) rfl rfl]
  exact b_lwithout rows ls nx dk hn
theorem c_turned (k : Nat) (l : List Int) (dk : List Int) (hl : l.length ≤ 10000) (hn : (rowsL l 0 0).length ≤ 1000) (ht : (turnT l (rowsL l 0 0)).length ≤ lim) :
    callF tblE (k + 2) 16 [.fro (IL l)] dk = some (IL (turnT l (rowsL l 0 0)), dk) := by
  rw [call_eq (fn := f16) rfl rfl]
  exact b_turned l _ dk (c_rows k l dk hl) hn ht
noncomputable def wdGo (nx : Bool) (tx : Nat → List Int) : List Nat → List Nat → List (List Int) → List Nat
  | [], gone, _ => gone
  | p :: ps, gone, known => if known.contains (tx p) then wdGo nx tx ps (gone ++ [p]) known else wdGo nx tx ps gone (if nx then [tx p] else known ++ [tx p])
theorem wdGoq1 (nx : Bool) (tx : Nat → List Int) (u : List Nat) (u1 : List (List Int)) : wdGo nx tx [] u u1 = u := rfl
theorem wdGoq2 (nx : Bool) (tx : Nat → List Int) (u : List Nat) (u1 : List (List Int)) (p : Nat) (ps : List Nat) : wdGo nx tx (p :: ps) u u1 = if u1.contains (tx p) = true then wdGo nx tx ps (u ++ [p]) u1 else wdGo nx tx ps u (if nx = true then [tx p] else u1 ++ [tx p]) := rfl
noncomputable abbrev iN (l : List Nat) : List Int := l.map fun i => ((i : Nat) : Int)
theorem iN_contains (l : List Nat) (p : Nat) : (iN l).contains ((p : Nat) : Int) = l.contains p := by
  rw [Bool.eq_iff_iff, List.contains_iff_mem, List.contains_iff_mem, List.mem_map]
  exact ⟨fun ⟨x, hx, e⟩ => Int.ofNat.inj e ▸ hx, fun h => ⟨p, h, rfl⟩⟩
theorem iN_snoc (l : List Nat) (p : Nat) : iN l ++ [((p : Nat) : Int)] = iN (l ++ [p]) := map_snoc _ l p
theorem put_gone {gone : List Nat} {p : Nat} (h : ¬ p ∈ gone) (hl : gone.length < lim) : putS (.dct (iN gone)) (nD p) (.bool true) = some (.dct (iN (gone ++ [p]))) := by
  have h1 : (iN gone).length < lim := by rw [List.length_map]; exact hl
  have h2 : (iN gone).contains ((p : Nat) : Int) = false := by
    rw [iN_contains, ← Bool.not_eq_true, List.contains_iff_mem]; exact h
  have h3 : putKey (iN gone) p = iN (gone ++ [p]) := by
    rw [putKey, h2, ← iN_snoc]; rfl
  simp only [putS, h1, if_true, h3]
theorem wd_loop {cf : CF} (texts : List (List Int)) (tx : Nat → List Int) (s0 s1 s3 s4 s5 s7 : Slot) (nx : Bool) (dk : List Int) : ∀ (ps gone : List Nat) (known : List (List Int)) (s10 s11 : Slot), (∀ p ∈ ps, texts[p]? = some (tx p)) → ps.Nodup → (∀ p ∈ ps, p ∉ gone) → gone.length + ps.length ≤ 1000 → known.length + ps.length ≤ 1000 →
    ∃ (known' : List (List Int)) (s10' : Slot), forL [10] (exs cf f17_b0) (ps.map nD) { v := [s0, s1, .fro (.bool nx), s3, s4, s5, .own (texts.map IL), s7, .dct (iN gone), .own (known.map IL), s10, s11], dk := dk } =
      some (.next, { v := [s0, s1, .fro (.bool nx), s3, s4, s5, .own (texts.map IL), s7, .dct (iN (wdGo nx tx ps gone known)), .own (known'.map IL), s10', s11], dk := dk })
  | [], gone, known, s10, s11, _, _, _, _, _ => ⟨known, s10, rfl⟩
  | p :: ps, gone, known, s10, s11, hp, hnd, hg, h1, h2 => by
    have it := item_list (f := IL) (hp p (List.mem_cons_self ..))
    have ha := any_IL known (tx p)
    have hs := small_IL (tx p)
    obtain ⟨n1, n2⟩ := List.nodup_cons.mp hnd
    have hp' : ∀ q ∈ ps, texts[q]? = some (tx q) := fun q h => hp q (List.mem_cons_of_mem _ h)
    rw [List.length_cons] at h1 h2
    have l2 := map_lim IL (l := known) (by (first | lia | omega))
    rw [List.map_cons, wdGoq2]
    cases hc : known.contains (tx p) with
    | true =>
      obtain ⟨known', s10', q⟩ := wd_loop (cf := cf) texts tx s0 s1 s3 s4 s5 s7 nx dk ps (gone ++ [p]) known (.fro (nD p)) s11 hp' n2
        (fun q h z => by
          rcases List.mem_append.mp z with z | z
          · exact hg q (List.mem_cons_of_mem _ h) z
          · rw [List.mem_singleton.mp z] at h; exact n1 h) (by rw [List.length_append]; show _ + 1 + _ ≤ _; (first | lia | omega)) (by (first | lia | omega))
      have hg2 := put_gone (hg p (List.mem_cons_self ..)) (by unfold lim; (first | lia | omega))
      rw [hc] at ha
      have ho := inn_IL (ng := false) (s := .own (known.map IL)) hs rfl (fun _ z => nomatch z) ha
      refine ⟨known', s10', for_next rfl ?_ q⟩
      delta f17_b0
      walk_at "mini"
    | false =>
      obtain ⟨known', s10', q⟩ := wd_loop (cf := cf) texts tx s0 s1 s3 s4 s5 s7 nx dk ps gone (if nx then [tx p] else known ++ [tx p]) (.fro (nD p)) s11 hp' n2 (fun q h => hg q (List.mem_cons_of_mem _ h)) (by (first | lia | omega)) (by
        cases nx with
        | true => show 1 + _ ≤ _; (first | lia | omega)
        | false => show (known ++ [tx p]).length + _ ≤ _; rw [List.length_append]; show _ + 1 + _ ≤ _; (first | lia | omega))
      rw [hc] at ha
      have ho := inn_IL (ng := false) (s := .own (known.map IL)) hs rfl (fun _ z => nomatch z) ha
      refine ⟨known', s10', for_next rfl ?_ q⟩
      delta f17_b0
      cases nx with
      | true => walk_at "mini"
      | false =>
        rw [show (if false = true then [tx p] else known ++ [tx p]) = known ++ [tx p] from rfl, ← map_snoc]
        walk_at "mini"
noncomputable def outGo (l : List Int) (gone : List Nat) : List (Nat × Nat) → Nat → List Int
  | [], _ => []
  | p :: ps, i => (if gone.contains i then [] else slice l p.1 (p.2 + 1)) ++ outGo l gone ps (i + 1)
theorem outGoq1 (l : List Int) (gone : List Nat) (u : Nat) : outGo l gone [] u = [] := rfl
theorem outGoq2 (l : List Int) (gone : List Nat) (u : Nat) (p : Nat × Nat) (ps : List (Nat × Nat)) : outGo l gone (p :: ps) u = (if gone.contains u = true then [] else slice l p.fst (p.snd + 1)) ++ outGo l gone ps (u + 1) := rfl
theorem out_loop {cf : CF} (l : List Int) (ps : List (Nat × Nat)) (gone : List Nat) (s1 s2 s6 s7 s9 : Slot) (dk : List Int) : ∀ (rest : List (Nat × Nat)) (i : Nat) (acc : List Int) (s4 s5 s10 : Slot), ps.drop i = rest → acc.length + (outGo l gone rest i).length ≤ lim →
    ∃ (s4' s5' s10' : Slot), forL [10] (exs cf f17_b1) ((List.range' i rest.length).map nD) { v := [.fro (IL l), s1, s2, .fro (PL ps), s4, s5, s6, s7, .dct (iN gone), s9, s10, .own (acc.map D.int)], dk := dk } =
      some (.next, { v := [.fro (IL l), s1, s2, .fro (PL ps), s4', s5', s6, s7, .dct (iN gone), s9, s10', .own ((acc ++ outGo l gone rest i).map D.int)], dk := dk })
  | [], i, acc, s4, s5, s10, _, _ => ⟨s4, s5, s10, by rw [outGoq1, List.append_nil]; rfl⟩
  | p :: rest, i, acc, s4, s5, s10, hd, hl => by
    obtain ⟨d1, d2, d3⟩ := drop_cons hd
    have ip := item_list (f := pD) d1
    have hin : innS true (nD i) (.dct (iN gone)) = some (.fro (.bool (!gone.contains i))) := by rw [← iN_contains]; rfl
    rw [outGoq2] at hl
    rw [List.length_cons, List.range'_succ, List.map_cons, outGoq2]
    cases hc : gone.contains i with
    | true =>
      rw [hc] at hin hl
      obtain ⟨s4', s5', s10', q⟩ := out_loop (cf := cf) l ps gone s1 s2 s6 s7 s9 dk rest (i + 1) acc s4 s5 (.fro (nD i)) d2 (by rw [if_pos rfl, List.nil_append] at hl; exact hl)
      refine ⟨s4', s5', s10', for_next rfl ?_ q⟩
      delta f17_b1
      walk_at "mini"
    | false =>
      rw [hc] at hin hl
      rw [if_neg Bool.false_ne_true, List.length_append] at hl
      obtain ⟨s4', s5', s10', q⟩ := out_loop (cf := cf) l ps gone s1 s2 s6 s7 s9 dk rest (i + 1) (acc ++ slice l p.1 (p.2 + 1)) (.fro (nD p.1)) (.fro (nD p.2)) (.fro (nD i)) d2 (by rw [List.length_append]; (first | lia | omega))
      have l1 := ext_ints (acc := acc) (w := slice l p.1 (p.2 + 1)) (n := 0) (by (first | lia | omega))
      have hcut := cut_all l p.1 (p.2 + 1)
      have hm : (acc ++ slice l p.1 (p.2 + 1)).map D.int = acc.map D.int ++ (slice l p.1 (p.2 + 1)).map D.int := List.map_append
      rw [List.append_assoc, hm] at q
      refine ⟨s4', s5', s10', for_next rfl ?_ q⟩
      delta f17_b1
      walk_at "mini"
noncomputable def goneT (texts : List (List Int)) (ls nx : Bool) : List Nat :=
  wdGo nx (fun i => texts.getD i []) (if ls then (List.range texts.length).reverse else List.range texts.length) [] []
theorem tx_comp {cf : CF} (l : List Int) (dk : List Int) (x1 x2 x3 x4 x5 x6 x7 x8 x9 x10 x11 : Slot) (ps : List (Nat × Nat)) :
    ∃ s : Slot × Slot, compL (compOne 12 2 (evC cf .nil) (ev cf f17_e0)) (ps.map pD) { v := [.fro (IL l), x1, x2, x3, x4, x5, x6, x7, x8, x9, x10, x11, .unset, .unset], dk := dk } =
      some ((ps.map fun p => slice l p.1 p.2).map IL, { v := [.fro (IL l), x1, x2, x3, x4, x5, x6, x7, x8, x9, x10, x11, s.1, s.2], dk := dk }) := by
  rw [List.map_map, ← fm_some (IL ∘ fun p : Nat × Nat => slice l p.1 p.2)]
  refine compL_gen pD _ (fun s : Slot × Slot => { v := [.fro (IL l), x1, x2, x3, x4, x5, x6, x7, x8, x9, x10, x11, s.1, s.2], dk := dk }) ps (.unset, .unset) fun p _ s => ⟨(.fro (nD p.1), .fro (nD p.2)), ?_⟩
  have hc := cut_all l p.1 p.2
  delta f17_e0
  walk_at "mini"
theorem gone_loop {cf : CF} (l : List Int) (ps : List (Nat × Nat)) (texts : List (List Int)) (hlen : texts.length = ps.length) (hn : ps.length ≤ 500) (nx : Bool) (dk : List Int) (ls : Bool) (order : List Nat) (ho : order = if ls then (List.range texts.length).reverse else List.range texts.length) :
    ∃ (known' : List (List Int)) (s10' : Slot), forL [10] (exs cf f17_b0) (order.map nD) { v := [.fro (IL l), .fro (.bool ls), .fro (.bool nx), .fro (PL ps), .unset, .unset, .own (texts.map IL), .fro (NL order), .dct [], .own [], .unset, .unset], dk := dk } =
      some (.next, { v := [.fro (IL l), .fro (.bool ls), .fro (.bool nx), .fro (PL ps), .unset, .unset, .own (texts.map IL), .fro (NL order), .dct (iN (goneT texts ls nx)), .own (known'.map IL), s10', .unset], dk := dk }) := by
  have hmem : ∀ p ∈ order, texts[p]? = some (texts.getD p []) := fun p h => by
    have hp : p < texts.length := by
      rw [ho] at h
      cases ls with
      | true => exact List.mem_range.mp (List.mem_reverse.mp h)
      | false => exact List.mem_range.mp h
    rw [List.getElem?_eq_getElem hp, List.getD, List.getElem?_eq_getElem hp]; rfl
  have hnd : order.Nodup := by
    rw [ho]
    cases ls with
    | true => exact List.pairwise_reverse.mpr (List.Pairwise.imp (fun h z => h z.symm) List.nodup_range)
    | false => exact List.nodup_range
  have hll : order.length = ps.length := by
    rw [ho, ← hlen]
    cases ls with
    | true => rw [if_pos rfl, List.length_reverse, List.length_range]
    | false => exact List.length_range
  obtain ⟨known', s10', e⟩ := wd_loop (cf := cf) texts (fun i => texts.getD i []) (.fro (IL l)) (.fro (.bool ls)) (.fro (PL ps)) .unset .unset (.fro (NL order)) nx dk order [] [] .unset .unset hmem hnd (fun _ _ z => nomatch z) (by rw [hll, List.length_nil]; (first | lia | omega)) (by rw [hll, List.length_nil]; (first | lia | omega))
  refine ⟨known', s10', ?_⟩
  rw [show goneT texts ls nx = wdGo nx (fun i => texts.getD i []) order [] [] by rw [ho]; rfl]
  exact e
theorem b_without {cf : CF} (l : List Int) (ps : List (Nat × Nat)) (ls nx : Bool) (dk : List Int) (h2 : cf 2 [.fro (IL l)] dk = some (PL ps, dk)) (hn : ps.length ≤ 500)
    (ht : (outGo l (goneT (ps.map fun p => slice l p.1 p.2) ls nx) ps 0).length ≤ lim) :
    endR (exs cf f17.body { v := [.fro (IL l), .fro (.bool ls), .fro (.bool nx), .unset, .unset, .unset, .unset, .unset, .unset, .unset, .unset, .unset], dk := dk }) =
      some (.tup [IL (outGo l (goneT (ps.map fun p => slice l p.1 p.2) ls nx) ps 0), nD (goneT (ps.map fun p => slice l p.1 p.2) ls nx).length], dk) := by
  obtain ⟨s12, e1⟩ := tx_comp (cf := cf) l dk .unset .unset .unset .unset .unset .unset .unset .unset .unset .unset .unset ps
  have hlen : (ps.map fun p => slice l p.1 p.2).length = ps.length := List.length_map ..
  generalize (ps.map fun p => slice l p.1 p.2) = texts at e1 ht hlen ⊢
  have hr := range_d (n := ps.length) (by (first | lia | omega))
  have hln : lenOf (.fro (PL ps)) = some ps.length := congrArg some (List.length_map ..)
  have hlg : lenOf (.dct (iN (goneT texts ls nx))) = some (goneT texts ls nx).length := congrArg some (List.length_map ..)
  rw [f17_eq]
  cases ls with
  | false =>
    obtain ⟨known', s10', e2⟩ := gone_loop (cf := cf) l ps texts hlen hn nx dk false _ rfl
    obtain ⟨s4', s5', s10'', e3⟩ := out_loop (cf := cf) l ps (goneT texts false nx) (.fro (.bool false)) (.fro (.bool nx)) (.own (texts.map IL)) (.fro (NL (List.range texts.length))) (.own (known'.map IL)) dk ps 0 [] .unset .unset s10' rfl (by rw [List.length_nil, Nat.zero_add]; exact ht)
    rw [if_neg Bool.false_ne_true, hlen] at e2
    rw [hlen, ← List.range_eq_range', List.nil_append] at e3
    walk_at "mini"
  | true =>
    obtain ⟨known', s10', e2⟩ := gone_loop (cf := cf) l ps texts hlen hn nx dk true _ rfl
    obtain ⟨s4', s5', s10'', e3⟩ := out_loop (cf := cf) l ps (goneT texts true nx) (.fro (.bool true)) (.fro (.bool nx)) (.own (texts.map IL)) (.fro (NL (List.range texts.length).reverse)) (.own (known'.map IL)) dk ps 0 [] .unset .unset s10' rfl (by rw [List.length_nil, Nat.zero_add]; exact ht)
    rw [if_pos rfl, hlen, List.map_reverse] at e2
    rw [hlen, ← List.range_eq_range', List.nil_append] at e3
    rw [NL, List.map_reverse] at e2 e3
    walk_at "mini"
theorem c_without (k : Nat) (l : List Int) (ls nx : Bool) (dk : List Int) (hl : l.length ≤ 10000) (hn : (rowsL l 0 0).length ≤ 500) (ht : (outGo l (goneT ((rowsL l 0 0).map fun p => slice l p.1 p.2) ls nx) (rowsL l 0 0) 0).length ≤ lim) :
    callF tblE (k + 2) 17 [.fro (IL l), .fro (.bool ls), .fro (.bool nx)] dk = some (.tup [IL (outGo l (goneT ((rowsL l 0 0).map fun p => slice l p.1 p.2) ls nx) (rowsL l 0 0) 0), nD (goneT ((rowsL l 0 0).map fun p => slice l p.1 p.2) ls nx).length], dk) := by
  rw [call_eq (fn := f17) rfl rfl]
  exact b_without l _ ls nx dk (c_rows k l dk hl) hn ht
noncomputable def parGo (fl : Nat × Nat → Bool) : List (Nat × Nat) → List (Nat × Nat) → List (Nat × Nat)
  | [], found => found
  | p :: ps, found => if p.1 < p.2 ∧ fl p = true then
      (match found.getLast? with
      | none => parGo fl ps (found ++ [p])
      | some q => if q.2 + 1 = p.1 then parGo fl ps (found.dropLast ++ [(q.1, p.2)]) else parGo fl ps (found ++ [p]))
    else parGo fl ps found
theorem parGoq1 (fl : Nat × Nat → Bool) (u : List (Nat × Nat)) : parGo fl [] u = u := rfl
theorem parGoq2 (fl : Nat × Nat → Bool) (u : List (Nat × Nat)) (p : Nat × Nat) (ps : List (Nat × Nat)) :
  parGo fl (p :: ps) u = (
    if p.fst < p.snd ∧ fl p = true then
      match u.getLast? with
      | none => parGo fl ps (u ++ [p])
      | some q => if q.snd + 1 = p.fst then parGo fl ps (u.dropLast ++ [(q.fst, p.snd)]) else parGo fl ps (u ++ [p])
    else parGo fl ps u) := rfl
theorem par_loop {cf : CF} (l : List Int) (fl : Nat × Nat → Bool) (dk : List Int) : ∀ (ps found : List (Nat × Nat)) (s2 s3 : Slot),
    (∀ p ∈ ps, ∃ fs : List (Nat × Nat), cf 4 [.fro (IL l), .fro (nD p.1), .fro (nD p.2)] dk = some (PL fs, dk) ∧ fl p = !fs.isEmpty) → found.length + ps.length ≤ 1000 →
    ∃ (s2' s3' : Slot), forL [2, 3] (exs cf f7_b0) (ps.map pD) { v := [.fro (IL l), .own (found.map pD), s2, s3], dk := dk } = some (.next, { v := [.fro (IL l), .own ((parGo fl ps found).map pD), s2', s3'], dk := dk })
  | [], found, s2, s3, _, _ => ⟨s2, s3, rfl⟩
  | p :: ps, found, s2, s3, h4, hn => by
    obtain ⟨fs, h, hfl⟩ := h4 p (List.mem_cons_self ..)
    have hs : ∀ q ∈ ps, ∃ fs : List (Nat × Nat), cf 4 [.fro (IL l), .fro (nD q.1), .fro (nD q.2)] dk = some (PL fs, dk) ∧ fl q = !fs.isEmpty := fun q m => h4 q (List.mem_cons_of_mem _ m)
    rw [List.length_cons] at hn
    have l1 := map_lim pD (l := found) (by (first | lia | omega))
    rw [List.map_cons, parGoq2]
    -- the part that lies after the merging
    have put : ∀ (fo : List (Nat × Nat)) (a : Nat), fo.length + 1 + ps.length ≤ 1000 → (exs cf f7_b0 { v := [.fro (IL l), .own (found.map pD), .fro (nD p.1), .fro (nD p.2)], dk := dk } = some (.next, { v := [.fro (IL l), .own (fo.map pD ++ [pD (a, p.2)]), .fro (nD a), .fro (nD p.2)], dk := dk })) →
        ∃ (s2' s3' : Slot), forL [2, 3] (exs cf f7_b0) (pD p :: ps.map pD) { v := [.fro (IL l), .own (found.map pD), s2, s3], dk := dk } = some (.next, { v := [.fro (IL l), .own ((parGo fl ps (fo ++ [(a, p.2)])).map pD), s2', s3'], dk := dk }) := fun fo a hl hy => by
      obtain ⟨s2', s3', q⟩ := par_loop (cf := cf) l fl dk ps (fo ++ [(a, p.2)]) (.fro (nD a)) (.fro (nD p.2)) hs (by rw [List.length_append]; exact hl)
      rw [← map_snoc] at q
      exact ⟨s2', s3', for_next rfl hy q⟩
    have skip : (exs cf f7_b0 { v := [.fro (IL l), .own (found.map pD), .fro (nD p.1), .fro (nD p.2)], dk := dk } = some (.next, { v := [.fro (IL l), .own (found.map pD), .fro (nD p.1), .fro (nD p.2)], dk := dk })) →
        ∃ (s2' s3' : Slot), forL [2, 3] (exs cf f7_b0) (pD p :: ps.map pD) { v := [.fro (IL l), .own (found.map pD), s2, s3], dk := dk } = some (.next, { v := [.fro (IL l), .own ((parGo fl ps found).map pD), s2', s3'], dk := dk }) := fun hy => by
      obtain ⟨s2', s3', q⟩ := par_loop (cf := cf) l fl dk ps found (.fro (nD p.1)) (.fro (nD p.2)) hs (by (first | lia | omega))
      exact ⟨s2', s3', for_next rfl hy q⟩
    by_cases hlt : p.1 < p.2
    · have hlti : (p.1 : Int) < (p.2 : Int) := Int.ofNat_lt.mpr hlt
      have hln : lenOf (.fro (PL fs)) = some fs.length := congrArg some (List.length_map ..)
      cases fs with
      | nil =>
        rw [if_neg fun z => by rw [hfl] at z; exact nomatch z.2]
        have hz : ¬ (0 : Int) < (([] : List (Nat × Nat)).length : Nat) := by decide
        refine skip ?_
        delta f7_b0
        walk_at "mini"
      | cons f0 fr =>
        rw [if_pos ⟨hlt, hfl⟩]
        have hpos : (0 : Int) < ((f0 :: fr).length : Nat) := Int.ofNat_lt.mpr (Nat.succ_pos _)
        have hln1 : lenOf (.own (found.map pD)) = some found.length := congrArg some (List.length_map ..)
        rcases List.eq_nil_or_concat found with rfl | ⟨fo, q, rfl⟩
        · have hz : ¬ (0 : Int) < (([] : List (Nat × Nat)).length : Nat) := by decide
          refine put [] p.1 (by rw [List.length_nil]; (first | lia | omega)) ?_
          delta f7_b0
          walk_at "mini"
        · rw [List.concat_eq_append] at *
          have hl2 : (fo ++ [q]).length = fo.length + 1 := by rw [List.length_append]; rfl
          rw [hl2] at hn hln1
          have hpos2 : (0 : Int) < ((fo.length + 1 : Nat) : Int) := Int.ofNat_lt.mpr (Nat.succ_pos _)
          have hidx : itemOf (.list ((fo ++ [q]).map pD)) (((fo.length + 1 : Nat) : Int) - 1) = some (pD q) := by
            rw [show (((fo.length + 1 : Nat) : Int) - 1) = (fo.length : Int) by (first | lia | omega)]
            exact item_list (f := pD) List.getElem?_concat_length
          have q1 := pair1 q
          have q0 := pair0 q
          have hg : (fo ++ [q]).getLast? = some q := List.getLast?_concat
          rw [hg]
          by_cases hq : q.2 + 1 = p.1
          · have hqi : (((q.2 : Nat) : Int) == ((p.1 : Nat) : Int) - 1) = true := beq_iff_eq.mpr (by (first | lia | omega))
            dsimp only
            rw [if_pos hq, List.dropLast_concat]
            have hgl : ((fo ++ [q]).map pD).getLast? = some (pD q) := by rw [← map_snoc]; exact List.getLast?_concat
            have hdl : ((fo ++ [q]).map pD).dropLast = fo.map pD := by rw [← map_snoc]; exact List.dropLast_concat
            have l3 : ((fo ++ [q]).map pD).dropLast.length < lim := by rw [hdl]; exact map_lim pD (by (first | lia | omega))
            refine put fo q.1 (by (first | lia | omega)) ?_
            rw [← hdl]
            delta f7_b0
            walk_at "mini"
          · have hqi : (((q.2 : Nat) : Int) == ((p.1 : Nat) : Int) - 1) = false := beq_false_of_ne fun z => hq (by (first | lia | omega))
            dsimp only
            rw [if_neg hq]
            refine put (fo ++ [q]) p.1 (by rw [hl2]; (first | lia | omega)) ?_
            delta f7_b0
            walk_at "mini"
    · have hlti : ¬ (p.1 : Int) < (p.2 : Int) := fun z => hlt (Int.ofNat_lt.mp z)
      rw [if_neg fun z => hlt z.1]
      refine skip ?_
      delta f7_b0
      walk_at "mini"
theorem b_par {cf : CF} (l : List Int) (fl : Nat × Nat → Bool) (ps : List (Nat × Nat)) (dk : List Int) (h2 : cf 2 [.fro (IL l)] dk = some (PL ps, dk))
    (h4 : ∀ p ∈ ps, ∃ fs : List (Nat × Nat), cf 4 [.fro (IL l), .fro (nD p.1), .fro (nD p.2)] dk = some (PL fs, dk) ∧ fl p = !fs.isEmpty) (hn : ps.length ≤ 1000) :
    endR (exs cf f7.body { v := [.fro (IL l), .unset, .unset, .unset], dk := dk }) = some (PL (parGo fl ps []), dk) := by
  obtain ⟨s2', s3', e⟩ := par_loop (cf := cf) l fl dk ps [] .unset .unset h4 (by rw [List.length_nil]; (first | lia | omega))
  rw [f7_eq]
  walk_at "mini"
theorem b_parrec {cf : CF} (l : List Int) (folds : Bool) (ps : List (Nat × Nat)) (dk : List Int) (h7 : cf 7 [.fro (IL l)] dk = some (PL ps, dk)) (h1 : ∀ (m : List Int) (dk : List Int), cf 1 [.fro (IL m)] dk = some (IL (m.map dc), dk)) (hn : ps.length ≤ 1000) :
    endR (exs cf f12.body { v := [.fro (IL l), .fro (.bool folds), .unset, .unset, .unset, .unset], dk := dk }) = some (.list ((ps.map (rowRec l folds)).map recD), dk) := by
  obtain ⟨s3', s4', s5', q⟩ := rec_loop h1 l folds dk ps [] .unset .unset .unset (by rw [List.length_nil]; (first | lia | omega))
  rw [List.nil_append] at q
  have q' : forL [3, 4] (exs cf f12_b0) _ _ = _ := q
  rw [f12_eq]
  walk_at "mini"
noncomputable def colRec (l : List Int) (f g : Nat) (folds : Bool) (p : Nat × Nat) : Nat × Nat × D := (p.1, p.2, IL (keyT folds (slice l (min (p.1 + f) p.2) (min (p.1 + g) p.2))))
theorem min_nat (a b : Nat) : minD (nD a) (nD b) = some (.fro (nD (min a b))) := by
  rw [minD]
  congr 3
  split <;> (first | lia | omega)
theorem col_loop {cf : CF} (h1 : ∀ (m : List Int) (dk : List Int), cf 1 [.fro (IL m)] dk = some (IL (m.map dc), dk)) (l : List Int) (f g : Nat) (folds : Bool) (dk : List Int) : ∀ (ps : List (Nat × Nat)) (done : List (Nat × Nat × D)) (s5 s6 s7 : Slot), done.length + ps.length ≤ 1000 →
    ∃ (s5' s6' s7' : Slot), forL [5, 6] (exs cf f15_b0) (ps.map pD) { v := [.fro (IL l), .fro (nD f), .fro (nD g), .fro (.bool folds), .own (done.map recD), s5, s6, s7], dk := dk } =
      some (.next, { v := [.fro (IL l), .fro (nD f), .fro (nD g), .fro (.bool folds), .own ((done ++ ps.map (colRec l f g folds)).map recD), s5', s6', s7'], dk := dk })
  | [], done, s5, s6, s7, _ => ⟨s5, s6, s7, by rw [List.map_nil, List.map_nil, List.append_nil]; rfl⟩
  | p :: ps, done, s5, s6, s7, hn => by
    rw [List.length_cons] at hn
    have hc := cut_all l (min (p.1 + f) p.2) (min (p.1 + g) p.2)
    have hk := h1 (slice l (min (p.1 + f) p.2) (min (p.1 + g) p.2)) dk
    have m1 := min_nat (p.1 + f) p.2
    have m2 := min_nat (p.1 + g) p.2
    have hcr : colRec l f g folds p = (p.1, p.2, IL (keyT folds (slice l (min (p.1 + f) p.2) (min (p.1 + g) p.2)))) := rfl
    obtain ⟨s5', s6', s7', q⟩ := col_loop h1 l f g folds dk ps (done ++ [colRec l f g folds p]) (.fro (nD p.1)) (.fro (nD p.2)) (.fro (IL (slice l (min (p.1 + f) p.2) (min (p.1 + g) p.2)))) (by rw [List.length_append]; show _ + 1 + _ ≤ _; (first | lia | omega))
    have l1 := map_lim recD (l := done) (by (first | lia | omega))
    rw [List.append_assoc, ← map_snoc] at q
    rw [List.map_cons, List.map_cons]
    refine ⟨s5', s6', s7', for_next rfl ?_ q⟩
    rw [hcr]
    generalize min (p.1 + f) p.2 = x at *
    generalize min (p.1 + g) p.2 = z at *
    delta f15_b0
    cases folds with
    | true => walk_at "mini"
    | false => walk_at "mini"
theorem b_colrec {cf : CF} (l : List Int) (f g : Nat) (folds : Bool) (ps : List (Nat × Nat)) (dk : List Int) (h2 : cf 2 [.fro (IL l)] dk = some (PL ps, dk)) (h1 : ∀ (m : List Int) (dk : List Int), cf 1 [.fro (IL m)] dk = some (IL (m.map dc), dk)) (hn : ps.length ≤ 1000) :
    endR (exs cf f15.body { v := [.fro (IL l), .fro (nD f), .fro (nD g), .fro (.bool folds), .unset, .unset, .unset, .unset], dk := dk }) = some (.list ((ps.map (colRec l f g folds)).map recD), dk) := by
  obtain ⟨s5', s6', s7', q⟩ := col_loop h1 l f g folds dk ps [] .unset .unset .unset (by rw [List.length_nil]; (first | lia | omega))
  rw [List.nil_append] at q
  rw [f15_eq]
  walk_at "mini"
theorem forL_ret {xs : List Nat} {body : St → Option (Ctl × St)} {d : D} {ds : List D} {st st1 : St} {v : List Slot} {s : Slot} (hb : bindT xs d st.v = some v) (hy : body { st with v := v } = some (.ret s, st1)) : forL xs body (d :: ds) st = some (.ret s, st1) := by
  exact bnd hb (bnd hy rfl)
noncomputable def fldGo (mk : Nat × Nat → Nat × Nat → Nat × Nat × D) (fa : Nat × Nat → Option (Nat × Nat)) : List (Nat × Nat) → List (Nat × Nat × D) → D
  | [], done => .list (done.map recD)
  | p :: ps, done => match fa p with
    | none => .none
    | some q => fldGo mk fa ps (done ++ [mk p q])
theorem fldGoq1 (mk : Nat × Nat → Nat × Nat → Nat × Nat × D) (fa : Nat × Nat → Option (Nat × Nat)) (u : List (Nat × Nat × D)) : fldGo mk fa [] u = D.list (List.map recD u) := rfl
theorem fldGoq2 (mk : Nat × Nat → Nat × Nat → Nat × Nat × D) (fa : Nat × Nat → Option (Nat × Nat)) (u : List (Nat × Nat × D)) (p : Nat × Nat) (ps : List (Nat × Nat)) :
  fldGo mk fa (p :: ps) u = (
    match fa p with
    | none => D.none
    | some q => fldGo mk fa ps (u ++ [mk p q])) := rfl
noncomputable def Left (r : Option (Ctl × St)) (x : Nat) (dk : List Int) (d : D) : Prop :=
  (∃ st l, r = some (.next, st) ∧ st.v[x]? = some (.own l) ∧ d = .list l ∧ st.dk = dk) ∨ (∃ st, r = some (.ret (.fro .none), st) ∧ d = .none ∧ st.dk = dk)
theorem left_step {xs : List Nat} {body : St → Option (Ctl × St)} {i : D} {ds : List D} {st st1 : St} {v : List Slot} {x : Nat} {dk : List Int} {d : D} (hb : bindT xs i st.v = some v) (hy : body { st with v := v } = some (.next, st1)) (he : Left (forL xs body ds st1) x dk d) : Left (forL xs body (i :: ds) st) x dk d := by
  rw [forL_step hb hy rfl]; exact he
theorem left_end {cf : CF} {r : Option (Ctl × St)} {x : Nat} {dk : List Int} {d : D} {f : St → Option (Ctl × St)} {st : St} (hf : f st = r) (h : Left r x dk d) :
    endR (seqS f (seqS (ex cf (.ret (.var x))) (exs cf .nil)) st) = some (d, dk) := by
  subst hf
  rcases h with ⟨st1, l, e1, e2, rfl, rfl⟩ | ⟨st1, e1, rfl, rfl⟩
  · exact bnd (bnd e1 (bnd (X_ret (V_own e2)) rfl)) rfl
  · exact bnd (bnd e1 rfl) rfl
noncomputable def fldRec (l : List Int) (folds : Bool) (p q : Nat × Nat) : Nat × Nat × D := (p.1, p.2, IL (keyT folds (slice l q.1 q.2)))
noncomputable def numRec (nm : Nat × Nat → Int) (p q : Nat × Nat) : Nat × Nat × D := (p.1, p.2, .int (nm q))
theorem for_ret {xs : List Nat} {body : St → Option (Ctl × St)} {d : D} {ds : List D} {st st1 : St} {v : List Slot} {s : Slot} (hb : bindT xs d st.v = some v) (hy : body ⟨v, st.dk⟩ = some (.ret s, st1)) : forL xs body (d :: ds) st = some (.ret s, st1) := forL_ret hb hy
theorem fld_loop {cf : CF} (h1 : ∀ (m : List Int) (dk : List Int), cf 1 [.fro (IL m)] dk = some (IL (m.map dc), dk)) (l : List Int) (n : D) (folds : Bool) (fa : Nat × Nat → Option (Nat × Nat)) (dk : List Int) : ∀ (ps : List (Nat × Nat)) (done : List (Nat × Nat × D)) (s4 s5 s6 s7 : Slot),
    (∀ p ∈ ps, cf 5 [.fro (IL l), .fro (nD p.1), .fro (nD p.2), .fro n] dk = some (oP (fa p), dk)) → done.length + ps.length ≤ 1000 →
    Left (forL [4, 5] (exs cf f13_b0) (ps.map pD) { v := [.fro (IL l), .fro n, .fro (.bool folds), .own (done.map recD), s4, s5, s6, s7], dk := dk }) 3 dk (fldGo (fldRec l folds) fa ps done)
  | [], done, s4, s5, s6, s7, _, _ => .inl ⟨_, done.map recD, rfl, rfl, rfl, rfl⟩
  | p :: ps, done, s4, s5, s6, s7, h5, hn => by
    rw [List.length_cons] at hn
    have h := h5 p (List.mem_cons_self ..)
    have l1 := map_lim recD (l := done) (by (first | lia | omega))
    rw [List.map_cons, fldGoq2]
    cases hfa : fa p with
    | none =>
      rw [hfa] at h
      refine .inr ⟨{ v := [.fro (IL l), .fro n, .fro (.bool folds), .own (done.map recD), .fro (nD p.1), .fro (nD p.2), .fro .none, s7], dk := dk }, for_ret rfl ?_, rfl, rfl⟩
      delta f13_b0
      walk_at "mini"
    | some q =>
      rw [hfa] at h
      have ih := fld_loop h1 l n folds fa dk ps (done ++ [fldRec l folds p q]) (.fro (nD p.1)) (.fro (nD p.2)) (.fro (pD q)) (.fro (IL (slice l q.1 q.2))) (fun p hp => h5 p (List.mem_cons_of_mem _ hp)) (by rw [List.length_append]; show _ + 1 + _ ≤ _; (first | lia | omega))
      have hc := cut_all l q.1 q.2
      have hk := h1 (slice l q.1 q.2) dk
      have q0 := pair0 q
      have q1 := pair1 q
      refine left_step (st1 := { v := [.fro (IL l), .fro n, .fro (.bool folds), .own ((done ++ [fldRec l folds p q]).map recD), .fro (nD p.1), .fro (nD p.2), .fro (pD q), .fro (IL (slice l q.1 q.2))], dk := dk }) rfl ?_ ih
      rw [← map_snoc]
      delta f13_b0
      cases folds with
      | true => walk_at "mini"
      | false => walk_at "mini"
theorem b_fldrec {cf : CF} (l : List Int) (n : D) (folds : Bool) (fa : Nat × Nat → Option (Nat × Nat)) (ps : List (Nat × Nat)) (dk : List Int) (h2 : cf 2 [.fro (IL l)] dk = some (PL ps, dk)) (h1 : ∀ (m : List Int) (dk : List Int), cf 1 [.fro (IL m)] dk = some (IL (m.map dc), dk))
    (h5 : ∀ p ∈ ps, cf 5 [.fro (IL l), .fro (nD p.1), .fro (nD p.2), .fro n] dk = some (oP (fa p), dk)) (hn : ps.length ≤ 1000) :
    endR (exs cf f13.body { v := [.fro (IL l), .fro n, .fro (.bool folds), .unset, .unset, .unset, .unset, .unset], dk := dk }) = some (fldGo (fldRec l folds) fa ps [], dk) := by
  have e := fld_loop h1 l n folds fa dk ps [] .unset .unset .unset .unset h5 (by simpa using hn)
  have l0 : 0 ≤ lim := by decide
  rw [f13_eq]
  have s1 : ex cf (.asg 3 (.lst .nil)) { v := [.fro (IL l), .fro n, .fro (.bool folds), .unset, .unset, .unset, .unset, .unset], dk := dk } = some (.next, { v := [.fro (IL l), .fro n, .fro (.bool folds), .own [], .unset, .unset, .unset, .unset], dk := dk }) := by
    walk_at "mini"
  show endR (seqS (ex cf _) (seqS (forS _ (evI cf (.val (.call 2 (.cons (.var 0) .nil)))) _) (seqS (ex cf _) _)) _) = _
  rw [seq_next s1]
  refine left_end (f := forS [4, 5] (evI cf (.val (.call 2 (.cons (.var 0) .nil)))) (exs cf f13_b0)) ?_ e
  exact bnd (I_val (F_of (V_call (A_cons (V_fro rfl) rfl A_nil) h2) rfl)) rfl
theorem num_rec_loop {cf : CF} (l : List Int) (n : D) (nm : Nat × Nat → Int) (fa : Nat × Nat → Option (Nat × Nat)) (dk : List Int) : ∀ (ps : List (Nat × Nat)) (done : List (Nat × Nat × D)) (s3 s4 s5 : Slot),
    (∀ p ∈ ps, cf 5 [.fro (IL l), .fro (nD p.1), .fro (nD p.2), .fro n] dk = some (oP (fa p), dk)) →
    (∀ p ∈ ps, ∀ q, fa p = some q → cf 6 [.fro (IL l), .fro (nD q.1), .fro (nD q.2)] dk = some (.int (nm q), dk)) → done.length + ps.length ≤ 1000 →
    Left (forL [3, 4] (exs cf f14_b0) (ps.map pD) { v := [.fro (IL l), .fro n, .own (done.map recD), s3, s4, s5], dk := dk }) 2 dk (fldGo (numRec nm) fa ps done)
  | [], done, s3, s4, s5, _, _, _ => .inl ⟨_, done.map recD, rfl, rfl, rfl, rfl⟩
  | p :: ps, done, s3, s4, s5, h5, h6, hn => by
    rw [List.length_cons] at hn
    have h := h5 p (List.mem_cons_self ..)
    have l1 := map_lim recD (l := done) (by (first | lia | omega))
    rw [List.map_cons, fldGoq2]
    cases hfa : fa p with
    | none =>
      rw [hfa] at h
      refine .inr ⟨{ v := [.fro (IL l), .fro n, .own (done.map recD), .fro (nD p.1), .fro (nD p.2), .fro .none], dk := dk }, for_ret rfl ?_, rfl, rfl⟩
      delta f14_b0
      walk_at "mini"
    | some q =>
      have hnum := h6 p (List.mem_cons_self ..) q hfa
      rw [hfa] at h
      have ih := num_rec_loop (cf := cf) l n nm fa dk ps (done ++ [numRec nm p q]) (.fro (nD p.1)) (.fro (nD p.2)) (.fro (pD q)) (fun p hp => h5 p (List.mem_cons_of_mem _ hp)) (fun p hp => h6 p (List.mem_cons_of_mem _ hp)) (by rw [List.length_append]; show _ + 1 + _ ≤ _; (first | lia | omega))
      have q0 := pair0 q
      have q1 := pair1 q
      refine left_step (st1 := { v := [.fro (IL l), .fro n, .own ((done ++ [numRec nm p q]).map recD), .fro (nD p.1), .fro (nD p.2), .fro (pD q)], dk := dk }) rfl ?_ ih
      rw [← map_snoc]
      delta f14_b0
      walk_at "mini"
theorem b_numrec {cf : CF} (l : List Int) (n : D) (nm : Nat × Nat → Int) (fa : Nat × Nat → Option (Nat × Nat)) (ps : List (Nat × Nat)) (dk : List Int) (h2 : cf 2 [.fro (IL l)] dk = some (PL ps, dk))
    (h5 : ∀ p ∈ ps, cf 5 [.fro (IL l), .fro (nD p.1), .fro (nD p.2), .fro n] dk = some (oP (fa p), dk))
    (h6 : ∀ p ∈ ps, ∀ q, fa p = some q → cf 6 [.fro (IL l), .fro (nD q.1), .fro (nD q.2)] dk = some (.int (nm q), dk)) (hn : ps.length ≤ 1000) :
    endR (exs cf f14.body { v := [.fro (IL l), .fro n, .unset, .unset, .unset, .unset], dk := dk }) = some (fldGo (numRec nm) fa ps [], dk) := by
  have e := num_rec_loop (cf := cf) l n nm fa dk ps [] .unset .unset .unset h5 h6 (by simpa using hn)
  have l0 : 0 ≤ lim := by decide
  rw [f14_eq]
  have s1 : ex cf (.asg 2 (.lst .nil)) { v := [.fro (IL l), .fro n, .unset, .unset, .unset, .unset], dk := dk } = some (.next, { v := [.fro (IL l), .fro n, .own [], .unset, .unset, .unset], dk := dk }) := by
    walk_at "mini"
  show endR (seqS (ex cf _) (seqS (forS _ (evI cf (.val (.call 2 (.cons (.var 0) .nil)))) _) (seqS (ex cf _) _)) _) = _
  rw [seq_next s1]
  refine left_end (f := forS [3, 4] (evI cf (.val (.call 2 (.cons (.var 0) .nil)))) (exs cf f14_b0)) ?_ e
  exact bnd (I_val (F_of (V_call (A_cons (V_fro rfl) rfl A_nil) h2) rfl)) rfl
theorem slice_len {l : List Int} {a b : Nat} (h1 : a ≤ b) (h2 : b ≤ l.length) : (slice l a b).length = b - a := by
  simp only [slice, List.length_take, List.length_drop]; (first | lia | omega)
theorem slice_drop {l : List Int} {a b : Nat} (h1 : a ≤ b) : l.drop a = slice l a b ++ l.drop b := by
  have h := List.take_append_drop (b - a) (l.drop a)
  rw [List.drop_drop, show a + (b - a) = b by (first | lia | omega)] at h
  exact h.symm
theorem spF_in : ∀ (row : List Int) (a : Nat) (o : Option Nat), (∀ s, o = some s → s < a) → ∀ q ∈ spF row a o, (match o with | none => a | some s => s) ≤ q.1 ∧ q.1 < q.2 ∧ q.2 ≤ a + row.length
  | [], a, none, _, q, h => by simp [spFq1, spFq2, spFq3, spFq4] at h
  | [], a, some s, ho, q, h => by
    simp only [spFq1, spFq2, spFq3, spFq4, List.mem_singleton] at h
    subst h
    have := ho s rfl
    simp; (first | lia | omega)
  | c :: r, a, none, ho, q, h => by
    simp only [spFq1, spFq2, spFq3, spFq4] at h
    split at h
    · have := spF_in r (a + 1) none (by simp) q h
      simp only [List.length_cons] at this ⊢; (first | lia | omega)
    · have := spF_in r (a + 1) (some a) (by rintro s ⟨⟩; (first | lia | omega)) q h
      simp only [List.length_cons] at this ⊢; (first | lia | omega)
  | c :: r, a, some s, ho, q, h => by
    have hs := ho s rfl
    simp only [spFq1, spFq2, spFq3, spFq4] at h
    split at h
    · rcases List.mem_cons.mp h with rfl | h
      · simp only [List.length_cons]; (first | lia | omega)
      · have := spF_in r (a + 1) none (by simp) q h
        simp only [List.length_cons] at this ⊢; (first | lia | omega)
    · have := spF_in r (a + 1) (some s) (by rintro s' ⟨⟩; (first | lia | omega)) q h
      simp only [List.length_cons] at this ⊢; (first | lia | omega)
noncomputable def fieldsP (l : List Int) (p : Nat × Nat) : List (Nat × Nat) := spF (slice l p.1 p.2) p.1 none
noncomputable def numP (l : List Int) (q : Nat × Nat) : Int := numG (slice l q.1 q.2)
noncomputable def recsT (l : List Int) (way n : Int) (f g : Nat) (folds : Bool) : D :=
  if way = 0 then .list (((rowsL l 0 0).map (rowRec l folds)).map recD)
  else if way = 1 then .list (((parGo (fun p => !(fieldsP l p).isEmpty) (rowsL l 0 0) []).map (rowRec l folds)).map recD)
  else if way = 4 then .list (((rowsL l 0 0).map (colRec l f g folds)).map recD)
  else if way = 2 then fldGo (fldRec l folds) (fun p => fAt (fieldsP l p) n) (rowsL l 0 0) []
  else fldGo (numRec (numP l)) (fun p => fAt (fieldsP l p) n) (rowsL l 0 0) []
set_option tactic.hygienic true in
theorem par_len (fl : Nat × Nat → Bool) : ∀ (ps found : List (Nat × Nat)), (parGo fl ps found).length ≤ found.length + ps.length
  | [], found => by simp [parGoq1, parGoq2]
  | p :: ps, found => by
    simp only [parGoq1, parGoq2, List.length_cons]
    split
    · split
      · have := par_len fl ps (found ++ [p]); simp at this; (first | lia | omega)
      · rename_i q _
        have h1 := par_len fl ps (found.dropLast ++ [(q.1, p.2)])
        have h2 := par_len fl ps (found ++ [p])
        simp at h1 h2
        split <;> (first | lia | omega)
    · have := par_len fl ps found; (first | lia | omega)
section
variable (k : Nat) (l : List Int) (dk : List Int) (hl : l.length ≤ 10000) (hn : (rowsL l 0 0).length ≤ 1000) (hp : ∀ p ∈ rowsL l 0 0, p.1 ≤ p.2 ∧ p.2 ≤ l.length ∧ p.2 - p.1 ≤ 10)
include hl hn
theorem c_rowrec (folds : Bool) (hp : ∀ p ∈ rowsL l 0 0, p.1 ≤ p.2 ∧ p.2 ≤ l.length ∧ p.2 - p.1 ≤ 10) : callF tblE (k + 3) 11 [.fro (IL l), .fro (.bool folds)] dk = some (.list (((rowsL l 0 0).map (rowRec l folds)).map recD), dk) := by
  rw [call_eq (fn := f11) rfl rfl]
  exact b_rowrec l folds _ dk (c_rows (k + 1) l dk hl) (fun m dk => c_downcased k m dk) hn
include hp
theorem c_par : callF tblE (k + 3) 7 [.fro (IL l)] dk = some (PL (parGo (fun p => !(fieldsP l p).isEmpty) (rowsL l 0 0) []), dk) := by
  rw [call_eq (fn := f7) rfl rfl]
  refine b_par l _ _ dk (c_rows (k + 1) l dk hl) (fun p h => ⟨fieldsP l p, ?_, rfl⟩) hn
  obtain ⟨p1, p2, p3⟩ := hp p h
  have hsl := slice_len p1 p2
  have := c_fields k l (l.drop p.2) (slice l p.1 p.2) p.1 dk (slice_drop p1) (by (first | lia | omega))
  rw [hsl, show p.1 + (p.2 - p.1) = p.2 by (first | lia | omega)] at this
  exact this
theorem c_parrec (folds : Bool) : callF tblE (k + 4) 12 [.fro (IL l), .fro (.bool folds)] dk = some (.list (((parGo (fun p => !(fieldsP l p).isEmpty) (rowsL l 0 0) []).map (rowRec l folds)).map recD), dk) := by
  rw [call_eq (fn := f12) rfl rfl]
  have := par_len (fun p => !(fieldsP l p).isEmpty) (rowsL l 0 0) []
  exact b_parrec l folds _ dk (c_par k l dk hl hn hp) (fun m dk => c_downcased (k + 1) m dk) (by simp at this; (first | lia | omega))
theorem c_colrec (f g : Nat) (folds : Bool) : callF tblE (k + 3) 15 [.fro (IL l), .fro (nD f), .fro (nD g), .fro (.bool folds)] dk = some (.list (((rowsL l 0 0).map (colRec l f g folds)).map recD), dk) := by
  rw [call_eq (fn := f15) rfl rfl]
  exact b_colrec l f g folds _ dk (c_rows (k + 1) l dk hl) (fun m dk => c_downcased k m dk) hn
theorem c_fa (n : Int) (h : n = 1 ∨ n = 2 ∨ n = -1) (p : Nat × Nat) (hpm : p ∈ rowsL l 0 0) : callF tblE (k + 3) 5 [.fro (IL l), .fro (nD p.1), .fro (nD p.2), .fro (.int n)] dk = some (oP (fAt (fieldsP l p) n), dk) := by
  obtain ⟨p1, p2, p3⟩ := hp p hpm
  have hsl := slice_len p1 p2
  have := c_fieldat k l (l.drop p.2) (slice l p.1 p.2) p.1 n dk h (slice_drop p1) (by (first | lia | omega))
  rw [hsl, show p.1 + (p.2 - p.1) = p.2 by (first | lia | omega)] at this
  exact this
theorem fa_in (n : Int) (p q : Nat × Nat) (hpm : p ∈ rowsL l 0 0) (hq : fAt (fieldsP l p) n = some q) : p.1 ≤ q.1 ∧ q.1 < q.2 ∧ q.2 ≤ p.2 := by
  obtain ⟨p1, p2, p3⟩ := hp p hpm
  have hsl := slice_len p1 p2
  have := spF_in _ _ none (by simp) q (fAt_mem hq)
  simp only at this
  (first | lia | omega)
theorem c_fldrec (n : Int) (h : n = 1 ∨ n = 2 ∨ n = -1) (folds : Bool) : callF tblE (k + 4) 13 [.fro (IL l), .fro (.int n), .fro (.bool folds)] dk = some (fldGo (fldRec l folds) (fun p => fAt (fieldsP l p) n) (rowsL l 0 0) [], dk) := by
  rw [call_eq (fn := f13) rfl rfl]
  exact b_fldrec l (.int n) folds _ _ dk (c_rows (k + 2) l dk hl) (fun m dk => c_downcased (k + 1) m dk) (fun p m => c_fa k l dk hl hn hp n h p m) hn
theorem c_numrec (n : Int) (h : n = 1 ∨ n = 2 ∨ n = -1) : callF tblE (k + 4) 14 [.fro (IL l), .fro (.int n)] dk = some (fldGo (numRec (numP l)) (fun p => fAt (fieldsP l p) n) (rowsL l 0 0) [], dk) := by
  rw [call_eq (fn := f14) rfl rfl]
  refine b_numrec l (.int n) (numP l) _ _ dk (c_rows (k + 2) l dk hl) (fun p m => c_fa k l dk hl hn hp n h p m) (fun p m q hq => ?_) hn
  obtain ⟨q1, q2, q3⟩ := fa_in l hl hn hp n p q m hq
  obtain ⟨p1, p2, p3⟩ := hp p m
  have hsl : (slice l q.1 q.2).length = q.2 - q.1 := slice_len (by (first | lia | omega)) (by (first | lia | omega))
  have := c_number (k + 2) l (l.drop q.2) (slice l q.1 q.2) q.1 dk (slice_drop (by (first | lia | omega))) (by (first | lia | omega))
  rw [hsl, show q.1 + (q.2 - q.1) = q.2 by (first | lia | omega)] at this
  exact this
theorem c_records (way n : Int) (hw : way = 0 ∨ way = 1 ∨ way = 2 ∨ way = 3 ∨ way = 4) (h : n = 1 ∨ n = 2 ∨ n = -1) (f g : Nat) (folds : Bool) :
    callF tblE (k + 5) 28 [.fro (IL l), .fro (.int way), .fro (.int n), .fro (.tup [nD f, nD g]), .fro (.bool folds)] dk = some (recsT l way n f g folds, dk) := by
  rw [call_eq (fn := f28) rfl rfl, f28_eq]
  have e0 := c_rowrec (k + 1) l dk hl hn folds hp
  have e1 := c_parrec k l dk hl hn hp folds
  have e2 := c_fldrec k l dk hl hn hp n h folds
  have e3 := c_numrec k l dk hl hn hp n h
  have e4 := c_colrec (k + 1) l dk hl hn hp f g folds
  have i0 : itemOf (.tup [nD f, nD g]) 0 = some (nD f) := rfl
  have i1 : itemOf (.tup [nD f, nD g]) 1 = some (nD g) := rfl
  rcases hw with rfl | rfl | rfl | rfl | rfl
  · rw [show recsT l 0 n f g folds = _ from if_pos rfl]
    walk_at "mini"
  · rw [show recsT l 1 n f g folds = _ from (if_neg (by decide)).trans (if_pos rfl)]
    walk_at "mini"
  · rw [show recsT l 2 n f g folds = _ from (if_neg (by decide)).trans ((if_neg (by decide)).trans ((if_neg (by decide)).trans (if_pos rfl)))]
    walk_at "mini"
  · rw [show recsT l 3 n f g folds = _ from (if_neg (by decide)).trans ((if_neg (by decide)).trans ((if_neg (by decide)).trans (if_neg (by decide))))]
    walk_at "mini"
  · rw [show recsT l 4 n f g folds = _ from (if_neg (by decide)).trans ((if_neg (by decide)).trans (if_pos rfl))]
    walk_at "mini"
end
theorem textL_len {m : Nat} (e : Bool) : ∀ (rows : List (List Int)), (∀ r ∈ rows, r.length ≤ m) → (textL rows e).length ≤ rows.length * (m + 1)
  | [], _ => by simp [textLq1, textLq2]
  | r :: rs, h => by
    have h1 := textL_len e rs fun q hq => h q (List.mem_cons_of_mem _ hq)
    have h2 := h r (by simp)
    simp only [textLq1, textLq2, List.length_append, List.length_cons, Nat.add_mul, Nat.one_mul]
    have h3 : (if rs ≠ [] ∨ e = true then ([10] : List Int) else []).length ≤ 1 := by split <;> simp
    (first | lia | omega)
theorem grp_flat : ∀ (rs : List (List Int)) (done : List (List (List Int))) (last : List (List Int)) (op : Bool), (grpGo rs done last op).flatten = done.flatten ++ last ++ rs
  | [], done, last, op => by simp [grpGoq1, grpGoq2]
  | r :: rs, done, last, op => by
    simp only [grpGoq1, grpGoq2]
    split
    · rw [grp_flat rs]; simp
    · rw [grp_flat rs]; simp
theorem grp_ne : ∀ (rs : List (List Int)) (done : List (List (List Int))) (last : List (List Int)) (op : Bool), (∀ g ∈ done, g ≠ []) → last ≠ [] → ∀ g ∈ grpGo rs done last op, g ≠ []
  | [], done, last, op, h1, h2, g, hg => by
    simp only [grpGoq1, grpGoq2, List.mem_append, List.mem_singleton] at hg
    rcases hg with hg | rfl
    · exact h1 g hg
    · exact h2
  | r :: rs, done, last, op, h1, h2, g, hg => by
    simp only [grpGoq1, grpGoq2] at hg
    split at hg
    · exact grp_ne rs done (last ++ [r]) true h1 (by simp) g hg
    · refine grp_ne rs (done ++ [last]) [r] _ (fun x hx => ?_) (by simp) g hg
      rcases List.mem_append.mp hx with hx | hx
      · exact h1 x hx
      · rw [List.mem_singleton.mp hx]; exact h2
theorem groups_flat : ∀ (rows : List (List Int)), (groupsT rows).flatten = rows
  | [] => rfl
  | r :: rs => by simp only [groupsT, grp_flat]; simp
theorem groups_ne : ∀ (rows : List (List Int)), ∀ g ∈ groupsT rows, g ≠ []
  | [], g, h => by simp [groupsT] at h
  | r :: rs, g, h => grp_ne rs [] [r] _ (by simp) (by simp) g h
theorem flat_len {α : Type} : ∀ (gs : List (List α)), (∀ g ∈ gs, g ≠ []) → gs.length ≤ gs.flatten.length
  | [], _ => by simp
  | g :: gs, h => by
    have h1 := flat_len gs fun x hx => h x (List.mem_cons_of_mem _ hx)
    have h2 : 0 < g.length := List.length_pos_iff.mpr (h g (by simp))
    simp only [List.length_cons, List.flatten_cons, List.length_append]; (first | lia | omega)
theorem mem_flat_len {α : Type} : ∀ (gs : List (List α)) (g : List α), g ∈ gs → g.length ≤ gs.flatten.length
  | x :: gs, g, h => by
    simp only [List.flatten_cons, List.length_append]
    rcases List.mem_cons.mp h with rfl | h
    · (first | lia | omega)
    · have := mem_flat_len gs g h; (first | lia | omega)
theorem groups_small {rows : List (List Int)} (hn : rows.length ≤ 5) (hr : ∀ r ∈ rows, r.length ≤ 5) :
    (groupsT rows).length ≤ 5 ∧ ∀ g ∈ groupsT rows, g ≠ [] ∧ g.length ≤ 5 ∧ (∀ r ∈ g, r.length ≤ 5) := by
  have h1 := flat_len (groupsT rows) (groups_ne rows)
  rw [groups_flat] at h1
  refine ⟨by (first | lia | omega), fun g hg => ⟨groups_ne rows g hg, ?_, fun r hrg => ?_⟩⟩
  · have h2 := mem_flat_len (groupsT rows) g hg
    rw [groups_flat] at h2
    (first | lia | omega)
  · refine hr r ?_
    rw [← groups_flat rows]
    exact List.mem_flatten.mpr ⟨g, hg, hrg⟩
noncomputable def ownG : List (List Int) → Bool
  | [] => false
  | r :: _ => !blk r
noncomputable def ownP (gs : List (List (List Int))) : List Nat := gs.zipIdx.filterMap fun p => if ownG p.1 then some p.2 else none
noncomputable def textG (gs : List (List (List Int))) (i : Nat) : List Int := textL (gs.getD i []) false
noncomputable def keysG (gs : List (List (List Int))) (folds : Bool) : List D := (ownP gs).map fun i => IL ((textG gs i).map (sm folds))
noncomputable def ordK (ks : List D) (rv : Bool) : List Nat := selN (btK ks rv) ks.length (List.range ks.length)
noncomputable def setGo (gs : List (List (List Int))) (own : List Nat) : List (Nat × Nat) → List (List Int) → List (List Int)
  | [], t => t
  | p :: ps, t => setGo gs own ps (t.set p.1 (textG gs (own.getD p.2 0)))
theorem setGoq1 (gs : List (List (List Int))) (own : List Nat) (u : List (List Int)) : setGo gs own [] u = u := rfl
theorem setGoq2 (gs : List (List (List Int))) (own : List Nat) (u : List (List Int)) (p : Nat × Nat) (ps : List (Nat × Nat)) : setGo gs own (p :: ps) u = setGo gs own ps (u.set p.fst (textG gs (own.getD p.snd 0))) := rfl
noncomputable def turnedG (gs : List (List (List Int))) (folds rv : Bool) : List (List Int) := setGo gs (ownP gs) ((ownP gs).zip (ordK (keysG gs folds) rv)) (gs.map fun g => textL g false)
noncomputable def dueT (rows : List (List Int)) (way n : Int) (f g : Nat) (folds rv e : Bool) : D :=
  if way = 1 then IL (textL (turnedG (groupsT rows) folds rv) e)
  else if (rows.map fun r => keyD r way n f g folds).any (fun y => D.eqv y .none) then .none
  else IL (textL ((ordK (rows.map fun r => keyD r way n f g folds) rv).map fun i => rows.getD i []) e)
theorem ownP_lt {gs : List (List (List Int))} {i : Nat} (h : i ∈ ownP gs) : i < gs.length := by
  obtain ⟨p, hp, e⟩ := List.mem_filterMap.mp h
  have := (List.mem_zipIdx hp).2.1
  split at e
  · cases e; (first | lia | omega)
  · cases e
theorem selN_mem {bt : Nat → Nat → Bool} : ∀ (n : Nat) (l : List Nat) (x : Nat), x ∈ selN bt n l → x ∈ l
  | 0, l, x, h => by simp [selNq1, selNq2, selNq3] at h
  | n + 1, [], x, h => by simp [selNq1, selNq2, selNq3] at h
  | n + 1, y :: r, x, h => by
    simp only [selNq1, selNq2, selNq3] at h
    rcases List.mem_cons.mp h with rfl | h
    · exact bestOf_mem r y
    · exact List.mem_of_mem_erase (selN_mem n _ x h)
theorem ordK_lt {ks : List D} {rv : Bool} {x : Nat} (h : x ∈ ordK ks rv) : x < ks.length := by
  have := selN_mem _ _ _ h
  simpa using this
theorem selN_len {bt : Nat → Nat → Bool} : ∀ (n : Nat) (l : List Nat), l.length = n → (selN bt n l).length = n
  | 0, l, h => rfl
  | n + 1, [], h => by simp at h
  | n + 1, y :: r, h => by
    have hm := bestOf_mem (bt := bt) r y
    simp only [selNq1, selNq2, selNq3, List.length_cons]
    rw [selN_len n _ (by rw [List.length_erase_of_mem hm, h]; rfl)]
theorem ordK_len (ks : List D) (rv : Bool) : (ordK ks rv).length = ks.length := selN_len _ _ (by simp)
theorem isInts_IL (l : List Int) : isInts (IL l) = true := by simp [isInts, isInt]
theorem keysG_ok (gs : List (List (List Int))) (folds : Bool) : keysOk (keysG gs folds) = true := by
  simp only [keysOk, keysG, Bool.or_eq_true]
  right
  rw [List.all_eq_true]
  intro d hd
  obtain ⟨i, _, rfl⟩ := List.mem_map.mp hd
  exact isInts_IL _
theorem keyF_cases (way : Int) (folds : Bool) (o : Option (List Int)) : keyF way folds o = .none ∨ (way = 2 ∧ ∃ w, keyF way folds o = IL w) ∨ (way ≠ 2 ∧ ∃ i, keyF way folds o = .int i) := by
  cases o with
  | none => exact .inl rfl
  | some w =>
    by_cases h : way = 2
    · exact .inr (.inl ⟨h, w.map (sm folds), by simp only [keyF, h, if_true]⟩)
    · exact .inr (.inr ⟨h, numG w, by simp only [keyF, h, if_false]⟩)
set_option tactic.hygienic true in
theorem keysW_ok (rows : List (List Int)) (way n : Int) (f g : Nat) (folds : Bool) (h : (rows.map fun r => keyD r way n f g folds).any (fun y => D.eqv y .none) = false) : keysOk (rows.map fun r => keyD r way n f g folds) = true := by
  rw [List.any_eq_false] at h
  simp only [keysOk, Bool.or_eq_true]
  by_cases h3 : way = 4 ∨ way < 2 ∨ way = 2
  · right
    rw [List.all_eq_true]
    intro d hd
    have hn := h d hd
    obtain ⟨r, _, rfl⟩ := List.mem_map.mp hd
    simp only [keyD] at hn ⊢
    split
    · exact isInts_IL _
    · split
      · exact isInts_IL _
      · rename_i a b
        simp only [a, b, if_false] at hn
        rcases keyF_cases way folds (fAt (fieldsT r) n) with q | ⟨_, w, q⟩ | ⟨q, _⟩
        · rw [q] at hn; exact absurd rfl hn
        · rw [q]; exact isInts_IL _
        · (first | lia | omega)
  · left
    rw [List.all_eq_true]
    intro d hd
    have hn := h d hd
    obtain ⟨r, _, rfl⟩ := List.mem_map.mp hd
    have a : ¬ way = 4 := fun z => h3 (.inl z)
    have b : ¬ way < 2 := fun z => h3 (.inr (.inl z))
    simp only [keyD, a, b, if_false] at hn ⊢
    rcases keyF_cases way folds (fAt (fieldsT r) n) with q | ⟨q, _⟩ | ⟨_, w, q⟩
    · rw [q] at hn; exact absurd rfl hn
    · exact absurd (.inr (.inr q)) h3
    · rw [q]; rfl
section
variable {cf : CF}
  (h20 : ∀ (l : List Int) (b : Bool) (dk : List Int), cf 20 [.fro (IL l), .fro (.bool b)] dk = some (IL (l.map (sm b)), dk))
  (h21 : ∀ (row : List Int) (dk : List Int), row.length ≤ 5 → cf 21 [.fro (IL row)] dk = some (LL (fieldsT row), dk))
  (h23 : ∀ (row : List Int) (way n : Int) (f l : Nat) (folds : Bool) (dk : List Int), row.length ≤ 5 → (n = 1 ∨ n = 2 ∨ n = -1) → cf 23 [.fro (IL row), .fro (.int way), .fro (.int n), .fro (.tup [nD f, nD l]), .fro (.bool folds)] dk = some (keyD row way n f l folds, dk))
  (h24 : ∀ (ks : List D) (rv : Bool) (dk : List Int), keysOk ks = true → ks.length ≤ 1000 → cf 24 [.fro (.list ks), .fro (.bool rv)] dk = some (NL (ordK ks rv), dk))
  (h25 : ∀ (rows : List (List Int)) (e : Bool) (dk : List Int), rows.length ≤ 10000 → (textL rows e).length ≤ lim → cf 25 [.fro (LL rows), .fro (.bool e)] dk = some (IL (textL rows e), dk))
  (h26 : ∀ (rows : List (List Int)) (dk : List Int), rows ≠ [] → (∀ r ∈ rows, r.length ≤ 5) → rows.length ≤ 5 → cf 26 [.fro (LL rows)] dk = some (GL (groupsT rows), dk))
include h21 in
theorem due_own (gs : List (List (List Int))) (hg : ∀ g ∈ gs, g ≠ [] ∧ g.length ≤ 5 ∧ (∀ r ∈ g, r.length ≤ 5)) (dk : List Int) (s : Slot × Slot) :
    ∃ s' : Slot × Slot, compL (compOne 13 2 (evC cf f27_c0) (ev cf f27_e0)) (enumD (gs.map LL)) { v := [.unset, .unset, .unset, .unset, .unset, .unset, .unset, .unset, .unset, .unset, .unset, .unset, .unset, s.1, s.2], dk := dk } =
      some ((ownP gs).map nD, { v := [.unset, .unset, .unset, .unset, .unset, .unset, .unset, .unset, .unset, .unset, .unset, .unset, .unset, s'.1, s'.2], dk := dk }) := by
  have he : enumD (gs.map LL) = gs.zipIdx.map fun p => .tup [nD p.2, LL p.1] := by
    simp only [enumD, List.zipIdx_map, List.map_map]
    rfl
  have ho : (ownP gs).map nD = gs.zipIdx.filterMap fun p => if ownG p.1 then some (nD p.2) else none := by
    simp only [ownP, List.map_filterMap]
    congr 1
    funext p
    split <;> rfl
  rw [he, ho]
  refine compL_gen (fun p => .tup [nD p.2, LL p.1]) (fun p => if ownG p.1 then some (nD p.2) else none) (fun s : Slot × Slot => { v := [.unset, .unset, .unset, .unset, .unset, .unset, .unset, .unset, .unset, .unset, .unset, .unset, .unset, s.1, s.2], dk := dk }) gs.zipIdx s ?_
  rintro ⟨g, i⟩ hm s
  have hgm : g ∈ gs := by
    have := (List.mem_zipIdx hm).2.2
    rw [this]; exact List.getElem_mem _
  obtain ⟨g1, g2, g3⟩ := hg g hgm
  cases g with
  | nil => exact absurd rfl g1
  | cons r rest =>
    refine ⟨(.fro (nD i), .fro (LL (r :: rest))), ?_⟩
    have h := h21 r dk (g3 r (by simp))
    have hb := blk_eqv r
    have i0 : itemOf (LL (r :: rest)) 0 = some (IL r) := item_list (f := IL) (l := r :: rest) (a := 0) rfl
    have how : ownG (r :: rest) = !blk r := rfl
    dsimp only
    generalize r :: rest = g at i0 how ⊢
    rw [how]
    clear how
    delta f27_c0 f27_e0
    cases hbk : blk r with
    | true =>
      have hc : cmpD .ne (LL (fieldsT r)) (.list []) = some false := ne_nil (hb.trans hbk)
      walk_at "mini"
    | false =>
      have hc : cmpD .ne (LL (fieldsT r)) (.list []) = some true := ne_nil (hb.trans hbk)
      walk_at "mini"
theorem text_at {gs : List (List (List Int))} (hg : ∀ g ∈ gs, g ≠ [] ∧ g.length ≤ 5 ∧ (∀ r ∈ g, r.length ≤ 5)) {i : Nat} (hi : i < gs.length) :
    itemOf (GL gs) ((i : Nat) : Int) = some (LL (gs.getD i [])) ∧ (gs.getD i []).length ≤ 10000 ∧ (textL (gs.getD i []) false).length ≤ 30 := by
  have e : gs[i]? = some (gs.getD i []) := by simp [List.getD, List.getElem?_eq_getElem hi]
  obtain ⟨g1, g2, g3⟩ := hg _ (List.mem_of_getElem? e)
  refine ⟨item_list (f := LL) e, by (first | lia | omega), ?_⟩
  have h := textL_len (m := 5) false _ g3
  have : (gs.getD i []).length * (5 + 1) ≤ 5 * (5 + 1) := Nat.mul_le_mul_right _ g2
  (first | lia | omega)
include h20 h25 in
theorem due_keys (gs : List (List (List Int))) (hg : ∀ g ∈ gs, g ≠ [] ∧ g.length ≤ 5 ∧ (∀ r ∈ g, r.length ≤ 5)) (folds : Bool) (dk : List Int) (s : Slot) :
    ∃ s' : Slot, compL (compOne 13 1 (evC cf .nil) (ev cf f27_e1)) ((ownP gs).map nD) { v := [.unset, .unset, .unset, .unset, .fro (.bool folds), .unset, .unset, .fro (GL gs), .unset, .unset, .unset, .unset, .unset, s], dk := dk } =
      some (keysG gs folds, { v := [.unset, .unset, .unset, .unset, .fro (.bool folds), .unset, .unset, .fro (GL gs), .unset, .unset, .unset, .unset, .unset, s'], dk := dk }) := by
  have ho : keysG gs folds = (ownP gs).filterMap fun i => some (IL ((textG gs i).map (sm folds))) := by rw [fm_some]; rfl
  rw [ho]
  refine compL_gen nD _ (fun s : Slot => { v := [.unset, .unset, .unset, .unset, .fro (.bool folds), .unset, .unset, .fro (GL gs), .unset, .unset, .unset, .unset, .unset, s], dk := dk }) (ownP gs) s ?_
  intro i hi s
  refine ⟨.fro (nD i), ?_⟩
  obtain ⟨t1, t2, t3⟩ := text_at hg (ownP_lt hi)
  have h := h25 (gs.getD i []) false dk t2 (by unfold lim; (first | lia | omega))
  have h' := h20 (textL (gs.getD i []) false) folds dk
  unfold textG
  generalize gs.getD i [] = g at h h' t1 ⊢
  generalize textL g false = w at h h' ⊢
  delta f27_e1
  walk_at "mini"
include h25 in
theorem due_texts (gs : List (List (List Int))) (hg : ∀ g ∈ gs, g ≠ [] ∧ g.length ≤ 5 ∧ (∀ r ∈ g, r.length ≤ 5)) (dk : List Int) (s : Slot) :
    ∃ s' : Slot, compL (compOne 13 1 (evC cf .nil) (ev cf f27_e2)) (gs.map LL) { v := [.unset, .unset, .unset, .unset, .unset, .unset, .unset, .unset, .unset, .unset, .unset, .unset, .unset, s], dk := dk } =
      some ((gs.map fun g => textL g false).map IL, { v := [.unset, .unset, .unset, .unset, .unset, .unset, .unset, .unset, .unset, .unset, .unset, .unset, .unset, s'], dk := dk }) := by
  have ho : (gs.map fun g => textL g false).map IL = gs.filterMap fun g => some (IL (textL g false)) := by rw [fm_some, List.map_map]; rfl
  rw [ho]
  refine compL_gen LL _ (fun s : Slot => { v := [.unset, .unset, .unset, .unset, .unset, .unset, .unset, .unset, .unset, .unset, .unset, .unset, .unset, s], dk := dk }) gs s ?_
  intro g hgm s
  refine ⟨.fro (LL g), ?_⟩
  obtain ⟨g1, g2, g3⟩ := hg g hgm
  have hb := textL_len (m := 5) false g g3
  have : g.length * (5 + 1) ≤ 5 * (5 + 1) := Nat.mul_le_mul_right _ g2
  have h := h25 g false dk (by (first | lia | omega)) (by unfold lim; (first | lia | omega))
  delta f27_e2
  walk_at "mini"
include h25 in
theorem due_set (gs : List (List (List Int))) (hg : ∀ g ∈ gs, g ≠ [] ∧ g.length ≤ 5 ∧ (∀ r ∈ g, r.length ≤ 5)) (own : List Nat) (ho : ∀ i ∈ own, i < gs.length) (x0 x1 x2 x3 x4 x5 x6 x10 : Slot) (dk : List Int) : ∀ (ps : List (Nat × Nat)) (t : List (List Int)) (s8 s12 : Slot),
    (∀ p ∈ ps, p.1 < t.length ∧ p.2 < own.length) →
    ∃ (s8' s12' : Slot), forL [8, 12] (exs cf f27_b0) (ps.map fun p => .tup [nD p.1, nD p.2]) { v := [x0, x1, x2, x3, x4, x5, x6, .fro (GL gs), s8, .fro (NL own), x10, .own (t.map IL), s12], dk := dk } =
      some (.next, { v := [x0, x1, x2, x3, x4, x5, x6, .fro (GL gs), s8', .fro (NL own), x10, .own ((setGo gs own ps t).map IL), s12'], dk := dk })
  | [], t, s8, s12, _ => ⟨s8, s12, by simp [forLq1, forLq2, setGoq1, setGoq2]⟩
  | p :: ps, t, s8, s12, hp => by
    obtain ⟨p1, p2⟩ := hp p (by simp)
    obtain ⟨s8', s12', e⟩ := due_set gs hg own ho x0 x1 x2 x3 x4 x5 x6 x10 dk ps (t.set p.1 (textG gs (own.getD p.2 0))) (.fro (nD p.1)) (.fro (nD p.2)) fun q hq => by
      rw [List.length_set]; exact hp q (List.mem_cons_of_mem _ hq)
    refine ⟨s8', s12', ?_⟩
    have eo : own[p.2]? = some (own.getD p.2 0) := by simp [List.getD, List.getElem?_eq_getElem p2]
    have io := item_list (f := nD) eo
    obtain ⟨t1, t2, t3⟩ := text_at hg (ho _ (List.mem_of_getElem? eo))
    have h := h25 (gs.getD (own.getD p.2 0) []) false dk t2 (by unfold lim; (first | lia | omega))
    have hput : putS (.own (t.map IL)) (nD p.1) (IL (textG gs (own.getD p.2 0))) = some (.own ((t.set p.1 (textG gs (own.getD p.2 0))).map IL)) := by
      have : (0 : Int) ≤ (p.1 : Int) ∧ (p.1 : Int) < ((t.map IL).length : Int) := by rw [List.length_map]; (first | lia | omega)
      simp only [putS]
      rw [if_pos this, List.map_set]
      rfl
    refine forL_step (v := [x0, x1, x2, x3, x4, x5, x6, .fro (GL gs), .fro (nD p.1), .fro (NL own), x10, .own (t.map IL), .fro (nD p.2)]) rfl ?_ e
    unfold textG at hput ⊢
    generalize own.getD p.2 0 = j at h t1 io hput ⊢
    generalize gs.getD j [] = g at h t1 hput ⊢
    generalize textL g false = w at h hput ⊢
    delta f27_b0
    walk_at "mini"
theorem setGo_len (gs : List (List (List Int))) (own : List Nat) : ∀ (ps : List (Nat × Nat)) (t : List (List Int)), (setGo gs own ps t).length = t.length
  | [], t => rfl
  | p :: ps, t => by simp only [setGoq1, setGoq2, setGo_len gs own ps, List.length_set]
theorem setGo_small (gs : List (List (List Int))) (hg : ∀ g ∈ gs, g ≠ [] ∧ g.length ≤ 5 ∧ (∀ r ∈ g, r.length ≤ 5)) (own : List Nat) (ho : ∀ i ∈ own, i < gs.length) : ∀ (ps : List (Nat × Nat)) (t : List (List Int)), (∀ p ∈ ps, p.2 < own.length) → (∀ x ∈ t, x.length ≤ 30) → ∀ x ∈ setGo gs own ps t, x.length ≤ 30
  | [], t, _, ht, x, hx => ht x hx
  | p :: ps, t, hp, ht, x, hx => by
    refine setGo_small gs hg own ho ps _ (fun q hq => hp q (List.mem_cons_of_mem _ hq)) (fun y hy => ?_) x hx
    rcases List.mem_or_eq_of_mem_set hy with q | rfl
    · exact ht y q
    · have p2 := hp p (by simp)
      have eo : own[p.2]? = some (own.getD p.2 0) := by simp [List.getD, List.getElem?_eq_getElem p2]
      exact (text_at hg (ho _ (List.mem_of_getElem? eo))).2.2
end
section
variable {cf : CF}
  (h20 : ∀ (l : List Int) (b : Bool) (dk : List Int), cf 20 [.fro (IL l), .fro (.bool b)] dk = some (IL (l.map (sm b)), dk))
  (h21 : ∀ (row : List Int) (dk : List Int), row.length ≤ 5 → cf 21 [.fro (IL row)] dk = some (LL (fieldsT row), dk))
  (h23 : ∀ (row : List Int) (way n : Int) (f l : Nat) (folds : Bool) (dk : List Int), row.length ≤ 5 → (n = 1 ∨ n = 2 ∨ n = -1) → cf 23 [.fro (IL row), .fro (.int way), .fro (.int n), .fro (.tup [nD f, nD l]), .fro (.bool folds)] dk = some (keyD row way n f l folds, dk))
  (h24 : ∀ (ks : List D) (rv : Bool) (dk : List Int), keysOk ks = true → ks.length ≤ 1000 → cf 24 [.fro (.list ks), .fro (.bool rv)] dk = some (NL (ordK ks rv), dk))
  (h25 : ∀ (rows : List (List Int)) (e : Bool) (dk : List Int), rows.length ≤ 10000 → (textL rows e).length ≤ lim → cf 25 [.fro (LL rows), .fro (.bool e)] dk = some (IL (textL rows e), dk))
  (h26 : ∀ (rows : List (List Int)) (dk : List Int), rows ≠ [] → (∀ r ∈ rows, r.length ≤ 5) → rows.length ≤ 5 → cf 26 [.fro (LL rows)] dk = some (GL (groupsT rows), dk))
theorem ownP_len (gs : List (List (List Int))) : (ownP gs).length ≤ gs.length := by
  have := List.length_filterMap_le (fun p : List (List Int) × Nat => if ownG p.1 then some p.2 else none) gs.zipIdx
  simpa [ownP] using this
include h20 h21 h24 h25 h26 in
theorem b_due1 (rows : List (List Int)) (hne : rows ≠ []) (hn : rows.length ≤ 5) (hr : ∀ r ∈ rows, r.length ≤ 5) (n sp : D) (folds rv e : Bool) (dk : List Int) :
    endR (exs cf f27.body { v := [.fro (LL rows), .fro (.int 1), .fro n, .fro sp, .fro (.bool folds), .fro (.bool rv), .fro (.bool e), .unset, .unset, .unset, .unset, .unset, .unset], dk := dk }) =
      some (IL (textL (turnedG (groupsT rows) folds rv) e), dk) := by
  obtain ⟨hgl, hg⟩ := groups_small hn hr
  have e26 := h26 rows dk hne hr hn
  generalize hgs : groupsT rows = gs at hgl hg e26 ⊢
  obtain ⟨s', o1⟩ := due_own h21 gs hg dk (.unset, .unset)
  obtain ⟨s1', o2⟩ := due_keys h20 h25 gs hg folds dk .unset
  obtain ⟨s2', o3⟩ := due_texts h25 gs hg dk .unset
  have hol := ownP_len gs
  have hkl : (keysG gs folds).length = (ownP gs).length := by simp [keysG]
  have hord := h24 (keysG gs folds) rv dk (keysG_ok gs folds) (by (first | lia | omega))
  have hps : ∀ p ∈ (ownP gs).zip (ordK (keysG gs folds) rv), p.1 < gs.length ∧ p.2 < (ownP gs).length := fun p hp => by
    have h1 := List.of_mem_zip hp
    exact ⟨ownP_lt h1.1, by rw [← hkl]; exact ordK_lt h1.2⟩
  obtain ⟨s8', s12', o4⟩ := due_set h25 gs hg (ownP gs) (fun i h => ownP_lt h) (.fro (LL rows)) (.fro (.int 1)) (.fro n) (.fro sp) (.fro (.bool folds)) (.fro (.bool rv)) (.fro (.bool e)) (.fro (.list (keysG gs folds))) dk
    ((ownP gs).zip (ordK (keysG gs folds) rv)) (gs.map fun g => textL g false) .unset .unset (fun p hp => by rw [List.length_map]; exact hps p hp)
  have hT : setGo gs (ownP gs) ((ownP gs).zip (ordK (keysG gs folds) rv)) (gs.map fun g => textL g false) = turnedG gs folds rv := rfl
  rw [hT] at o4
  have htl : (turnedG gs folds rv).length = gs.length := by unfold turnedG; rw [setGo_len, List.length_map]
  have hts : ∀ x ∈ turnedG gs folds rv, x.length ≤ 30 := by
    refine setGo_small gs hg (ownP gs) (fun i h => ownP_lt h) _ _ (fun p hp => (hps p hp).2) (fun x hx => ?_)
    obtain ⟨g, hgm, rfl⟩ := List.mem_map.mp hx
    obtain ⟨g1, g2, g3⟩ := hg g hgm
    have hb := textL_len (m := 5) false g g3
    have : g.length * (5 + 1) ≤ 5 * (5 + 1) := Nat.mul_le_mul_right _ g2
    (first | lia | omega)
  have htt := textL_len e _ hts
  have hlim : (textL (turnedG gs folds rv) e).length ≤ lim := by
    have : (turnedG gs folds rv).length * (30 + 1) ≤ 5 * (30 + 1) := Nat.mul_le_mul_right _ (by (first | lia | omega))
    unfold lim; (first | lia | omega)
  have h25' := h25 _ e dk (by (first | lia | omega)) hlim
  generalize turnedG gs folds rv = t at o4 h25' ⊢
  generalize ownP gs = own at o1 o2 o4
  generalize keysG gs folds = ks at o2 o4 hord
  have hzip : zipD (own.map nD) ((ordK ks rv).map nD) = (own.zip (ordK ks rv)).map fun p => .tup [nD p.1, nD p.2] := by
    simp only [zipD, List.zip_map, List.map_map]
    rfl
  have hnD : nD = fun i => D.int (i : Nat) := rfl
  have t1 : ex cf (.asgC 7 (.call 26 (.cons (.var 0) .nil))) { v := [.fro (LL rows), .fro (.int 1), .fro n, .fro sp, .fro (.bool folds), .fro (.bool rv), .fro (.bool e), .unset, .unset, .unset, .unset, .unset, .unset], dk := dk } =
      some (.next, { v := [.fro (LL rows), .fro (.int 1), .fro n, .fro sp, .fro (.bool folds), .fro (.bool rv), .fro (.bool e), .fro (GL gs), .unset, .unset, .unset, .unset, .unset], dk := dk }) := by
    walk_at "mini"
  have t2 : ex cf (.asg 9 (.comp [] 2 (.enum (.var 7)) f27_c0 f27_e0)) { v := [.fro (LL rows), .fro (.int 1), .fro n, .fro sp, .fro (.bool folds), .fro (.bool rv), .fro (.bool e), .fro (GL gs), .unset, .unset, .unset, .unset, .unset], dk := dk } =
      some (.next, { v := [.fro (LL rows), .fro (.int 1), .fro n, .fro sp, .fro (.bool folds), .fro (.bool rv), .fro (.bool e), .fro (GL gs), .unset, .own (own.map nD), .unset, .unset, .unset], dk := dk }) := by
    walk_at "mini"
  have t3 : ex cf (.asg 10 (.comp [4, 7] 1 (.val (.var 9)) .nil f27_e1)) { v := [.fro (LL rows), .fro (.int 1), .fro n, .fro sp, .fro (.bool folds), .fro (.bool rv), .fro (.bool e), .fro (GL gs), .unset, .own (own.map nD), .unset, .unset, .unset], dk := dk } =
      some (.next, { v := [.fro (LL rows), .fro (.int 1), .fro n, .fro sp, .fro (.bool folds), .fro (.bool rv), .fro (.bool e), .fro (GL gs), .unset, .fro (NL own), .own ks, .unset, .unset], dk := dk }) := by
    walk_at "mini"
  have t4 : ex cf (.asg 11 (.comp [] 1 (.val (.var 7)) .nil f27_e2)) { v := [.fro (LL rows), .fro (.int 1), .fro n, .fro sp, .fro (.bool folds), .fro (.bool rv), .fro (.bool e), .fro (GL gs), .unset, .fro (NL own), .own ks, .unset, .unset], dk := dk } =
      some (.next, { v := [.fro (LL rows), .fro (.int 1), .fro n, .fro sp, .fro (.bool folds), .fro (.bool rv), .fro (.bool e), .fro (GL gs), .unset, .fro (NL own), .own ks, .own ((gs.map fun g => textL g false).map IL), .unset], dk := dk }) := by
    apply finE (b := some (_, _))
    · apply X_asg
      · apply V_comp
        · exact I_val (F_fro rfl)
        · exact rfl
        · exact o3
      · exact rfl
    · rfl
  have t5 : forS [8, 12] (evI cf (.zip (.var 9) (.call 24 (.cons (.var 10) (.cons (.var 5) .nil))))) (exs cf f27_b0) { v := [.fro (LL rows), .fro (.int 1), .fro n, .fro sp, .fro (.bool folds), .fro (.bool rv), .fro (.bool e), .fro (GL gs), .unset, .fro (NL own), .own ks, .own ((gs.map fun g => textL g false).map IL), .unset], dk := dk } =
      some (.next, { v := [.fro (LL rows), .fro (.int 1), .fro n, .fro sp, .fro (.bool folds), .fro (.bool rv), .fro (.bool e), .fro (GL gs), s8', .fro (NL own), .fro (.list ks), .own (t.map IL), s12'], dk := dk }) := by
    rw [← hzip] at o4
    exact bnd (I_zip (F_fro rfl) (F_of (V_call (A_cons (V_own rfl) rfl (A_cons (V_fro rfl) rfl A_nil)) hord) rfl)) o4
  rw [f27_eq]
  have hb : exs cf (Sms.cons (Sm.asgC 7 (Ex.call 26 (Exs.cons (Ex.var 0) Exs.nil))) (Sms.cons (Sm.asg 9 (Ex.comp [] 2 (It.enum (Ex.var 7)) f27_c0 f27_e0)) (Sms.cons (Sm.asg 10 (Ex.comp [4, 7] 1 (It.val (Ex.var 9)) Exs.nil f27_e1)) (Sms.cons (Sm.asg 11 (Ex.comp [] 1 (It.val (Ex.var 7)) Exs.nil f27_e2)) (Sms.cons (Sm.forS [8, 12] (It.zip (Ex.var 9) (Ex.call 24 (Exs.cons (Ex.var 10) (Exs.cons (Ex.var 5) Exs.nil)))) f27_b0) (Sms.cons (Sm.ret (Ex.call 25 (Exs.cons (Ex.var 11) (Exs.cons (Ex.var 6) Exs.nil)))) Sms.nil))))))
      { v := [.fro (LL rows), .fro (.int 1), .fro n, .fro sp, .fro (.bool folds), .fro (.bool rv), .fro (.bool e), .unset, .unset, .unset, .unset, .unset, .unset], dk := dk } = some (.ret (.fro (IL (textL t e))), { v := [.fro (LL rows), .fro (.int 1), .fro n, .fro sp, .fro (.bool folds), .fro (.bool rv), .fro (.bool e), .fro (GL gs), s8', .fro (NL own), .fro (.list ks), .fro (LL t), s12'], dk := dk }) := by
    show seqS (ex cf _) (seqS (ex cf _) (seqS (ex cf _) (seqS (ex cf _) (seqS (forS _ _ _) (seqS (ex cf _) _))))) _ = _
    rw [seq_next t1, seq_next t2, seq_next t3, seq_next t4, seq_next t5]
    exact bnd (X_ret (V_call (A_cons (V_own rfl) rfl (A_cons (V_fro rfl) rfl A_nil)) h25')) rfl
  show endR (seqS (ex cf (.ifS (.cmp .eq (.var 1) (.int 1)) _ .nil)) _ _) = _
  have t0 : ex cf (.ifS (.cmp .eq (.var 1) (.int 1)) (Sms.cons (Sm.asgC 7 (Ex.call 26 (Exs.cons (Ex.var 0) Exs.nil))) (Sms.cons (Sm.asg 9 (Ex.comp [] 2 (It.enum (Ex.var 7)) f27_c0 f27_e0)) (Sms.cons (Sm.asg 10 (Ex.comp [4, 7] 1 (It.val (Ex.var 9)) Exs.nil f27_e1)) (Sms.cons (Sm.asg 11 (Ex.comp [] 1 (It.val (Ex.var 7)) Exs.nil f27_e2)) (Sms.cons (Sm.forS [8, 12] (It.zip (Ex.var 9) (Ex.call 24 (Exs.cons (Ex.var 10) (Exs.cons (Ex.var 5) Exs.nil)))) f27_b0) (Sms.cons (Sm.ret (Ex.call 25 (Exs.cons (Ex.var 11) (Exs.cons (Ex.var 6) Exs.nil)))) Sms.nil)))))) .nil)
      { v := [.fro (LL rows), .fro (.int 1), .fro n, .fro sp, .fro (.bool folds), .fro (.bool rv), .fro (.bool e), .unset, .unset, .unset, .unset, .unset, .unset], dk := dk } = some (.ret (.fro (IL (textL t e))), { v := [.fro (LL rows), .fro (.int 1), .fro n, .fro sp, .fro (.bool folds), .fro (.bool rv), .fro (.bool e), .fro (GL gs), s8', .fro (NL own), .fro (.list ks), .fro (LL t), s12'], dk := dk }) := by
    exact X_if_t (T_F rfl (F_of (V_cmp (F_fro rfl) F_int eq_int) rfl)) rfl hb
  exact bnd (bnd t0 rfl) rfl
theorem any_none (ks : List D) : ks.any (fun y => D.eqv y .none) = true ∨ ks.any (fun y => D.eqv y .none) = false := by
  cases ks.any (fun y => D.eqv y .none) <;> simp
include h23 h24 h25 in
theorem b_due2 (rows : List (List Int)) (hn : rows.length ≤ 5) (hr : ∀ r ∈ rows, r.length ≤ 5) (way n : Int) (hw : way ≠ 1) (hnn : n = 1 ∨ n = 2 ∨ n = -1) (f g : Nat) (folds rv e : Bool) (dk : List Int) :
    endR (exs cf f27.body { v := [.fro (LL rows), .fro (.int way), .fro (.int n), .fro (.tup [nD f, nD g]), .fro (.bool folds), .fro (.bool rv), .fro (.bool e), .unset, .unset, .unset, .unset, .unset, .unset], dk := dk }) =
      some (dueT rows way n f g folds rv e, dk) := by
  have hwb : (way == 1) = false := by simpa using hw
  obtain ⟨s', o1⟩ : ∃ s' : Slot, compL (compOne 13 1 (evC cf .nil) (ev cf f27_e3)) (rows.map IL) { v := [.unset, .fro (.int way), .fro (.int n), .fro (.tup [nD f, nD g]), .fro (.bool folds), .unset, .unset, .unset, .unset, .unset, .unset, .unset, .unset, .unset], dk := dk } =
      some (rows.map fun r => keyD r way n f g folds, { v := [.unset, .fro (.int way), .fro (.int n), .fro (.tup [nD f, nD g]), .fro (.bool folds), .unset, .unset, .unset, .unset, .unset, .unset, .unset, .unset, s'], dk := dk }) := by
    rw [← fm_some (fun r => keyD r way n f g folds)]
    refine compL_gen IL _ (fun s : Slot => { v := [.unset, .fro (.int way), .fro (.int n), .fro (.tup [nD f, nD g]), .fro (.bool folds), .unset, .unset, .unset, .unset, .unset, .unset, .unset, .unset, s], dk := dk }) rows .unset ?_
    intro r hrm s
    refine ⟨.fro (IL r), ?_⟩
    have h := h23 r way n f g folds dk (hr r hrm) hnn
    simp only [IL] at h ⊢
    delta f27_e3; walk_at "mini"
  rw [f27_eq]
  unfold dueT
  rw [if_neg hw]
  have hok := keysW_ok rows way n f g folds
  have hkl : (rows.map fun r => keyD r way n f g folds).length = rows.length := by simp
  generalize (rows.map fun r => keyD r way n f g folds) = ks at o1 hok hkl ⊢
  have t0 : ∀ (body : Sms), ex cf (.ifS (.cmp .eq (.var 1) (.int 1)) body .nil) { v := [.fro (LL rows), .fro (.int way), .fro (.int n), .fro (.tup [nD f, nD g]), .fro (.bool folds), .fro (.bool rv), .fro (.bool e), .unset, .unset, .unset, .unset, .unset, .unset], dk := dk } = some (.next, { v := [.fro (LL rows), .fro (.int way), .fro (.int n), .fro (.tup [nD f, nD g]), .fro (.bool folds), .fro (.bool rv), .fro (.bool e), .unset, .unset, .unset, .unset, .unset, .unset], dk := dk }) := by
    intro body
    walk_at "mini"
  have t1 : ex cf (.asg 10 (.comp [4, 2, 3, 1] 1 (.val (.var 0)) .nil f27_e3)) { v := [.fro (LL rows), .fro (.int way), .fro (.int n), .fro (.tup [nD f, nD g]), .fro (.bool folds), .fro (.bool rv), .fro (.bool e), .unset, .unset, .unset, .unset, .unset, .unset], dk := dk } =
      some (.next, { v := [.fro (LL rows), .fro (.int way), .fro (.int n), .fro (.tup [nD f, nD g]), .fro (.bool folds), .fro (.bool rv), .fro (.bool e), .unset, .unset, .unset, .own ks, .unset, .unset], dk := dk }) := by
    walk_at "mini"
  show endR (seqS (ex cf (.ifS (.cmp .eq (.var 1) (.int 1)) _ .nil)) (seqS (ex cf _) (seqS (ex cf _) (seqS (ex cf _) _))) _) = _
  rw [seq_next (t0 _), seq_next t1]
  have hbor : (ev cf (.inn false .none (.var 10))).val { v := [.fro (LL rows), .fro (.int way), .fro (.int n), .fro (.tup [nD f, nD g]), .fro (.bool folds), .fro (.bool rv), .fro (.bool e), .unset, .unset, .unset, .own ks, .unset, .unset], dk := dk } = some (.fro (.bool (ks.any fun y => D.eqv y .none)), { v := [.fro (LL rows), .fro (.int way), .fro (.int n), .fro (.tup [nD f, nD g]), .fro (.bool folds), .fro (.bool rv), .fro (.bool e), .unset, .unset, .unset, .own ks, .unset, .unset], dk := dk }) := by
    generalize hA : ks.any (fun y => D.eqv y .none) = A
    have : innS false .none (.own ks) = some (.fro (.bool A)) := congrArg (fun z => some (Slot.fro (.bool z))) hA
    walk_at "mini"
  cases hA : ks.any (fun y => D.eqv y .none) with
  | true =>
    rw [hA] at hbor
    have t2 : ex cf (.ifS (.inn false .none (.var 10)) (.cons (.ret .none) .nil) .nil) { v := [.fro (LL rows), .fro (.int way), .fro (.int n), .fro (.tup [nD f, nD g]), .fro (.bool folds), .fro (.bool rv), .fro (.bool e), .unset, .unset, .unset, .own ks, .unset, .unset], dk := dk } = some (.ret (.fro .none), { v := [.fro (LL rows), .fro (.int way), .fro (.int n), .fro (.tup [nD f, nD g]), .fro (.bool folds), .fro (.bool rv), .fro (.bool e), .unset, .unset, .unset, .own ks, .unset, .unset], dk := dk }) := by
      exact X_if_t (T_F rfl (F_of hbor rfl)) rfl (XS_ret (X_ret V_none))
    exact bnd (bnd t2 rfl) rfl
  | false =>
    rw [hA] at hbor
    have t2 : ex cf (.ifS (.inn false .none (.var 10)) (.cons (.ret .none) .nil) .nil) { v := [.fro (LL rows), .fro (.int way), .fro (.int n), .fro (.tup [nD f, nD g]), .fro (.bool folds), .fro (.bool rv), .fro (.bool e), .unset, .unset, .unset, .own ks, .unset, .unset], dk := dk } = some (.next, { v := [.fro (LL rows), .fro (.int way), .fro (.int n), .fro (.tup [nD f, nD g]), .fro (.bool folds), .fro (.bool rv), .fro (.bool e), .unset, .unset, .unset, .own ks, .unset, .unset], dk := dk }) := by
      exact X_if_f (T_F rfl (F_of hbor rfl)) rfl XS_nil
    rw [seq_next t2]
    have hord := h24 ks rv dk (hok hA) (by (first | lia | omega))
    have hlt : ∀ i ∈ ordK ks rv, i < rows.length := fun i h => by rw [← hkl]; exact ordK_lt h
    obtain ⟨s4', o4⟩ : ∃ s' : Slot, compL (compOne 13 1 (evC cf .nil) (ev cf f27_e4)) ((ordK ks rv).map nD) { v := [.fro (LL rows), .unset, .unset, .unset, .unset, .unset, .unset, .unset, .unset, .unset, .unset, .unset, .unset, .unset], dk := dk } =
        some (((ordK ks rv).map fun i => rows.getD i []).map IL, { v := [.fro (LL rows), .unset, .unset, .unset, .unset, .unset, .unset, .unset, .unset, .unset, .unset, .unset, .unset, s'], dk := dk }) := by
      rw [List.map_map, ← fm_some (IL ∘ fun i => rows.getD i [])]
      refine compL_gen nD _ (fun s : Slot => { v := [.fro (LL rows), .unset, .unset, .unset, .unset, .unset, .unset, .unset, .unset, .unset, .unset, .unset, .unset, s], dk := dk }) (ordK ks rv) .unset ?_
      intro i hi s
      refine ⟨.fro (nD i), ?_⟩
      have e1 : rows[i]? = some (rows.getD i []) := by simp [List.getD, List.getElem?_eq_getElem (hlt i hi)]
      have h := item_list (f := IL) e1
      show _ = some (some (IL (rows.getD i [])), _)
      generalize rows.getD i [] = r at h ⊢
      simp only [IL, LL, nD] at h ⊢
      delta f27_e4; walk_at "mini"
    have hol := ordK_len ks rv
    have hsm : ∀ x ∈ (ordK ks rv).map (fun i => rows.getD i []), x.length ≤ 5 := fun x hx => by
      obtain ⟨i, hi, rfl⟩ := List.mem_map.mp hx
      have e1 : rows[i]? = some (rows.getD i []) := by simp [List.getD, List.getElem?_eq_getElem (hlt i hi)]
      exact hr _ (List.mem_of_getElem? e1)
    have htl := textL_len e _ hsm
    have hml : ((ordK ks rv).map (fun i => rows.getD i [])).length = rows.length := by rw [List.length_map, hol, hkl]
    generalize (ordK ks rv).map (fun i => rows.getD i []) = out at o4 htl hml ⊢
    have h25' := h25 out e dk (by (first | lia | omega)) (by
      have : out.length * (5 + 1) ≤ 5 * (5 + 1) := Nat.mul_le_mul_right _ (by (first | lia | omega))
      unfold lim; (first | lia | omega))
    exact bnd (bnd (X_ret (V_call (A_cons (V_comp (I_val (F_of (V_call (A_cons (V_own rfl) rfl (A_cons (V_fro rfl) rfl A_nil)) hord) rfl)) rfl o4) rfl (A_cons (V_fro rfl) rfl A_nil)) h25')) rfl) rfl
include h20 h21 h23 h24 h25 h26 in
theorem b_due (rows : List (List Int)) (hne : rows ≠ []) (hn : rows.length ≤ 5) (hr : ∀ r ∈ rows, r.length ≤ 5) (way n : Int) (hnn : n = 1 ∨ n = 2 ∨ n = -1) (f g : Nat) (folds rv e : Bool) (dk : List Int) :
    endR (exs cf f27.body { v := [.fro (LL rows), .fro (.int way), .fro (.int n), .fro (.tup [nD f, nD g]), .fro (.bool folds), .fro (.bool rv), .fro (.bool e), .unset, .unset, .unset, .unset, .unset, .unset], dk := dk }) =
      some (dueT rows way n f g folds rv e, dk) := by
  by_cases hw : way = 1
  · subst hw
    have h := b_due1 h20 h21 h24 h25 h26 rows hne hn hr (.int n) (.tup [nD f, nD g]) folds rv e dk
    unfold dueT
    rw [if_pos rfl]
    exact h
  · exact b_due2 h23 h24 h25 rows hn hr way n hw hnn f g folds rv e dk
end
theorem c_due (k : Nat) (rows : List (List Int)) (hne : rows ≠ []) (hn : rows.length ≤ 5) (hr : ∀ r ∈ rows, r.length ≤ 5) (way n : Int) (hnn : n = 1 ∨ n = 2 ∨ n = -1) (f g : Nat) (folds rv e : Bool) (dk : List Int) :
    callF tblE (k + 3) 27 [.fro (LL rows), .fro (.int way), .fro (.int n), .fro (.tup [nD f, nD g]), .fro (.bool folds), .fro (.bool rv), .fro (.bool e)] dk = some (dueT rows way n f g folds rv e, dk) := by
  rw [call_eq (fn := f27) rfl rfl]
  exact b_due (fun l b dk => c_small (k + 1) l b dk) (fun row dk h => c_lfields (k + 1) row dk (by (first | lia | omega))) (fun row way n f l folds dk h hn => c_lkey k row way n f l folds dk h hn) (fun ks rv dk h hl => c_order (k + 1) ks h rv dk hl) (fun rows e dk h1 h2 => c_text (k + 1) rows e dk h1 h2) (fun rows dk h1 h2 h3 => c_groups k rows dk h1 h2 h3) rows hne hn hr way n hnn f g folds rv e dk
theorem weak_flip {α : Type} {lt : α → α → Bool} (W : Weak lt) : Weak fun i j => lt j i :=
  ⟨fun a => W.irr a, fun a b c h => (W.neg c b a h).symm, fun a b c h1 h2 => W.tr c b a h2 h1⟩
theorem best_spec {α : Type} {g : α → α → Bool} (W : Weak g) : ∀ (r pre : List α) (b : α) (post : List α), (∀ y ∈ pre, g b y = true) → (∀ y ∈ post, g y b = false) →
    ∃ p q, pre ++ b :: (post ++ r) = p ++ bestOf g b r :: q ∧ (∀ y ∈ p, g (bestOf g b r) y = true) ∧ (∀ y ∈ q, g y (bestOf g b r) = false)
  | [], pre, b, post, h1, h2 => ⟨pre, post, by simp [bestOf], h1, h2⟩
  | z :: r, pre, b, post, h1, h2 => by
    by_cases h : g z b = true
    · obtain ⟨p, q, e, q1, q2⟩ := best_spec W r (pre ++ b :: post) z [] (fun y hy => by
        rcases List.mem_append.mp hy with hy | hy
        · exact W.tr z b y h (h1 y hy)
        · rcases List.mem_cons.mp hy with rfl | hy
          · exact h
          · rcases W.neg z y b h with k | k
            · exact k
            · rw [h2 y hy] at k; cases k) (by simp)
      have hb : bestOf g b (z :: r) = bestOf g z r := by simp [bestOf, h]
      rw [hb]
      refine ⟨p, q, ?_, q1, q2⟩
      rw [← e]; simp
    · obtain ⟨p, q, e, q1, q2⟩ := best_spec W r pre b (post ++ [z]) h1 (fun y hy => by
        rcases List.mem_append.mp hy with hy | hy
        · exact h2 y hy
        · rw [List.mem_singleton.mp hy]; exact Bool.not_eq_true _ ▸ h)
      have hb : bestOf g b (z :: r) = bestOf g b r := by simp [bestOf, h]
      rw [hb]
      refine ⟨p, q, ?_, q1, q2⟩
      rw [← e]; simp
theorem isort_min {α : Type} {lt : α → α → Bool} {b : α} {q : List α} (hq : ∀ y ∈ q, lt y b = false) : ∀ (p : List α), (∀ y ∈ p, lt b y = true) → isort lt (p ++ b :: q) = b :: isort lt (p ++ q)
  | [], _ => by
    simp only [List.nil_append, isortq1, isortq2]
    cases hs : isort lt q with
    | nil => rfl
    | cons y r =>
      have hy : y ∈ q := (mem_isort (lt := lt) q).mp (by rw [hs]; simp)
      simp [insq1, insq2, hq y hy]
  | x :: p, h => by
    simp only [List.cons_append, isortq1, isortq2]
    rw [isort_min hq p fun y hy => h y (List.mem_cons_of_mem _ hy)]
    simp [insq1, insq2, h x (by simp)]
theorem ins_end {α : Type} {lt : α → α → Bool} {x : α} : ∀ (l : List α), (∀ y ∈ l, lt y x = true) → ins lt x l = l ++ [x]
  | [], _ => rfl
  | y :: r, h => by
    simp only [insq1, insq2]
    rw [if_pos (h y (by simp)), ins_end r fun z hz => h z (List.mem_cons_of_mem _ hz)]
    rfl
theorem ins_snoc {α : Type} {lt : α → α → Bool} {x b : α} (hb : lt b x = false) : ∀ (l : List α), ins lt x (l ++ [b]) = ins lt x l ++ [b]
  | [] => by simp [insq1, insq2, hb]
  | y :: r => by
    simp only [List.cons_append, insq1, insq2]
    split
    · rw [ins_snoc hb r]; rfl
    · rfl
theorem isort_max {α : Type} {lt : α → α → Bool} {b : α} {p : List α} (hp : ∀ y ∈ p, lt y b = true) : ∀ (q : List α), (∀ y ∈ q, lt b y = false) → isort lt (q ++ b :: p) = isort lt (q ++ p) ++ [b]
  | [], _ => by
    simp only [List.nil_append, isortq1, isortq2]
    exact ins_end _ fun y hy => hp y ((mem_isort p).mp hy)
  | x :: q, h => by
    simp only [List.cons_append, isortq1, isortq2]
    rw [isort_max hp q fun y hy => h y (List.mem_cons_of_mem _ hy)]
    exact ins_snoc (h x (by simp)) _
theorem erase_mid {b : Nat} {p q : List Nat} (h : b ∉ p) : (p ++ b :: q).erase b = p ++ q := by
  rw [List.erase_append_right _ h, List.erase_cons_head]
theorem sel_isort {lt : Nat → Nat → Bool} (W : Weak lt) : ∀ (n : Nat) (l : List Nat), l.length = n → selN lt n l = isort lt l
  | 0, l, h => by rw [List.length_eq_zero_iff.mp h]; rfl
  | n + 1, [], h => by simp at h
  | n + 1, x :: r, h => by
    obtain ⟨p, q, e, q1, q2⟩ := best_spec W r [] x [] (by simp) (by simp)
    simp only [List.nil_append] at e
    simp only [selNq1, selNq2, selNq3]
    generalize bestOf lt x r = b at e q1 q2 ⊢
    have hb : b ∉ p := fun z => by have := q1 b z; rw [W.irr] at this; cases this
    rw [e, erase_mid hb, isort_min q2 p q1, sel_isort W n (p ++ q)]
    have := congrArg List.length e
    simp at this h ⊢; (first | lia | omega)
theorem sel_rev {lt : Nat → Nat → Bool} (W : Weak lt) : ∀ (n : Nat) (l : List Nat), l.length = n → selN (fun i j => lt j i) n l = (isort lt l.reverse).reverse
  | 0, l, h => by rw [List.length_eq_zero_iff.mp h]; rfl
  | n + 1, [], h => by simp at h
  | n + 1, x :: r, h => by
    obtain ⟨p, q, e, q1, q2⟩ := best_spec (weak_flip W) r [] x [] (by simp) (by simp)
    simp only [List.nil_append] at e
    simp only [selNq1, selNq2, selNq3]
    generalize bestOf (fun i j => lt j i) x r = b at e q1 q2 ⊢
    have hb : b ∉ p := fun z => by have := q1 b z; simp only [W.irr] at this; cases this
    have hl := congrArg List.length e
    rw [e, erase_mid hb, sel_rev W n (p ++ q) (by simp at hl h ⊢; (first | lia | omega))]
    have : (p ++ b :: q).reverse = q.reverse ++ b :: p.reverse := by simp
    rw [this, isort_max (p := p.reverse) (fun y hy => q1 y (List.mem_reverse.mp hy)) q.reverse (fun y hy => q2 y (List.mem_reverse.mp hy))]
    simp
theorem best_congr {α : Type} {b1 b2 : α → α → Bool} : ∀ (r : List α) (x : α), (∀ a ∈ x :: r, ∀ b ∈ x :: r, b1 a b = b2 a b) → bestOf b1 x r = bestOf b2 x r
  | [], x, _ => rfl
  | z :: r, x, h => by
    have e := h z (by simp) x (by simp)
    by_cases hz : b2 z x = true
    · have h1 : bestOf b1 x (z :: r) = bestOf b1 z r := by simp [bestOf, e, hz]
      have h2 : bestOf b2 x (z :: r) = bestOf b2 z r := by simp [bestOf, hz]
      rw [h1, h2]
      exact best_congr r z fun a ha b hb => h a (List.mem_cons_of_mem _ ha) b (List.mem_cons_of_mem _ hb)
    · have h1 : bestOf b1 x (z :: r) = bestOf b1 x r := by simp [bestOf, e, hz]
      have h2 : bestOf b2 x (z :: r) = bestOf b2 x r := by simp [bestOf, hz]
      rw [h1, h2]
      have hm : ∀ a, a ∈ x :: r → a ∈ x :: z :: r := fun a ha => by
        rcases List.mem_cons.mp ha with rfl | ha
        · simp
        · exact List.mem_cons_of_mem _ (List.mem_cons_of_mem _ ha)
      exact best_congr r x fun a ha b hb => h a (hm a ha) b (hm b hb)
theorem selN_congr {b1 b2 : Nat → Nat → Bool} : ∀ (n : Nat) (l : List Nat), (∀ a ∈ l, ∀ b ∈ l, b1 a b = b2 a b) → selN b1 n l = selN b2 n l
  | 0, l, _ => rfl
  | n + 1, [], _ => rfl
  | n + 1, x :: r, h => by
    simp only [selNq1, selNq2, selNq3]
    rw [best_congr r x h]
    rw [selN_congr n _ fun a ha b hb => h a (List.mem_of_mem_erase ha) b (List.mem_of_mem_erase hb)]
theorem rec_ext {α : Type} (rs : List α) (d0 : α) : rs = (List.range rs.length).map fun i => rs.getD i d0 := by
  apply List.ext_getElem
  · simp
  · intro i h1 h2
    simp [List.getD, List.getElem?_eq_getElem h1]
theorem ord_eq (rs : List (Nat × Nat × D)) (d0 : Nat × Nat × D) (rv : Bool) (hok : keysOk (rs.map fun p => p.2.2) = true) : ordL rs rv = (ordK (rs.map fun p => p.2.2) rv).map fun i => rs.getD i d0 := by
  cases hrs : rs with
  | nil => cases rv <;> simp [ordL, ordK, isortq1, isortq2, selNq1, selNq2, selNq3]
  | cons r0 rest =>
    rw [← hrs]
    obtain ⟨b, hb⟩ := keysOk_is hok
    have hr0 : r0 ∈ rs := by rw [hrs]; simp
    let K : Nat → D := fun i => (rs.getD i r0).2.2
    have hK : ∀ i, KeyIs b (K i) := fun i => by
      refine hb _ (List.mem_map.mpr ⟨rs.getD i r0, ?_, rfl⟩)
      rcases Nat.lt_or_ge i rs.length with q | q
      · simp only [List.getD, List.getElem?_eq_getElem q, Option.getD_some]; exact List.getElem_mem _
      · simp only [List.getD, List.getElem?_eq_none q, Option.getD_none]; exact hr0
    have W := keys_weak hK
    have hat : ∀ i, i < rs.length → (rs.map fun p => p.2.2).getD i .none = K i := fun i h => by
      simp [K, List.getD, List.getElem?_eq_getElem h]
    have hat2 : ∀ i, i < rs.length → (rs.getD i d0).2.2 = K i := fun i h => by
      simp [K, List.getD, List.getElem?_eq_getElem h]
    have hlt : ∀ i j, i < rs.length → j < rs.length → ltK (rs.map fun p => p.2.2) i j = (plt (K i) (K j)).getD false := fun i j hi hj => by
      unfold ltK; rw [hat i hi, hat j hj]
    have hrs2 := rec_ext rs d0
    have hl : (rs.map fun p => p.2.2).length = rs.length := by simp
    unfold ordL ordK
    rw [hl]
    cases rv with
    | false =>
      simp only [Bool.false_eq_true, if_false]
      conv => lhs; rw [hrs2]
      rw [isort_map]
      congr 1
      rw [isort_congr (l2 := fun i j => (plt (K i) (K j)).getD false) _ (fun i hi j hj => by rw [hat2 i (List.mem_range.mp hi), hat2 j (List.mem_range.mp hj)])]
      rw [← sel_isort W rs.length _ (by simp)]
      refine selN_congr _ _ fun i hi j hj => ?_
      simp only [btK, Bool.false_eq_true, if_false]
      exact (hlt i j (List.mem_range.mp hi) (List.mem_range.mp hj)).symm
    | true =>
      simp only [if_true]
      conv => lhs; rw [hrs2]
      rw [← List.map_reverse, isort_map, ← List.map_reverse]
      congr 1
      rw [isort_congr (l2 := fun i j => (plt (K i) (K j)).getD false) _ (fun i hi j hj => by rw [hat2 i (List.mem_range.mp (List.mem_reverse.mp hi)), hat2 j (List.mem_range.mp (List.mem_reverse.mp hj))])]
      rw [← sel_rev W rs.length _ (by simp)]
      refine selN_congr _ _ fun i hi j hj => ?_
      simp only [btK, if_true]
      exact (hlt j i (List.mem_range.mp hj) (List.mem_range.mp hi)).symm
noncomputable def no10 (r : List Int) : Prop := ∀ c ∈ r, c ≠ 10
noncomputable def endOk (rows : List (List Int)) (e : Bool) : Prop := e = true ∨ rows.getLast? ≠ some []
theorem endOk_tail {r : List Int} {rs : List (List Int)} {e : Bool} (h : endOk (r :: rs) e) : endOk rs e := by
  rcases h with h | h
  · exact .inl h
  · cases rs with
    | nil => exact .inr (by simp)
    | cons x xs => exact .inr (by rw [List.getLast?_cons_cons] at h; exact h)
noncomputable def offs : List (List Int) → Nat → List (Nat × Nat)
  | [], _ => []
  | r :: rs, a => (a, a + r.length) :: offs rs (a + r.length + 1)
theorem offsq1 (u : Nat) : offs [] u = [] := rfl
theorem offsq2 (u : Nat) (r : List Int) (rs : List (List Int)) : offs (r :: rs) u = (u, u + r.length) :: offs rs (u + r.length + 1) := rfl
theorem rowsL_skip : ∀ (r t : List Int) (a s : Nat), no10 r → rowsL (r ++ t) a s = rowsL t (a + r.length) s
  | [], t, a, s, _ => rfl
  | c :: r, t, a, s, h => by
    simp only [List.cons_append, rowsLq1, rowsLq2]
    rw [if_neg (h c (by simp)), rowsL_skip r t (a + 1) s fun x hx => h x (List.mem_cons_of_mem _ hx)]
    congr 1
    simp only [List.length_cons]; (first | lia | omega)
theorem rowsL_text (e : Bool) : ∀ (rows : List (List Int)) (a : Nat), (∀ r ∈ rows, no10 r) → endOk rows e → rowsL (textL rows e) a a = offs rows a
  | [], a, _, _ => by simp [textLq1, textLq2, rowsLq1, rowsLq2, offsq1, offsq2]
  | r :: rs, a, h, he => by
    have ih := rowsL_text e rs (a + r.length + 1) (fun x hx => h x (List.mem_cons_of_mem _ hx)) (endOk_tail he)
    simp only [textLq1, textLq2, offsq1, offsq2, List.append_assoc]
    rw [rowsL_skip r _ a a (h r (by simp))]
    by_cases hc : rs ≠ [] ∨ e = true
    · rw [if_pos hc]
      simp only [List.cons_append, List.nil_append, rowsLq1, rowsLq2, if_true]
      rw [ih]
    · rw [if_neg hc]
      have h1 : rs = [] := by
        cases rs with
        | nil => rfl
        | cons x xs => exact absurd (.inl (by simp)) hc
      have h2 : r ≠ [] := by
        rcases he with he | he
        · exact absurd (.inr he) hc
        · rw [h1] at he; simpa using he
      have h3 : 0 < r.length := List.length_pos_iff.mpr h2
      subst h1
      simp only [textLq1, textLq2, List.append_nil, rowsLq1, rowsLq2, offsq1, offsq2]
      rw [if_pos (by (first | lia | omega))]
noncomputable def osp : List (List Int × Bool) → Nat → List (Nat × Nat)
  | [], _ => []
  | (t, b) :: ps, a => (if b then [(a, a + t.length)] else []) ++ osp ps (a + t.length + 1)
theorem ospq1 (u : Nat) : osp [] u = [] := rfl
theorem ospq2 (u : Nat) (t : List Int) (b : Bool) (ps : List (List Int × Bool)) : osp ((t, b) :: ps) u = (if b = true then [(u, u + t.length)] else []) ++ osp ps (u + t.length + 1) := rfl
noncomputable def repl : List (List Int × Bool) → List (List Int) → List (List Int)
  | [], _ => []
  | (t, true) :: ps, [] => t :: repl ps []
  | (_, true) :: ps, o :: os => o :: repl ps os
  | (t, false) :: ps, os => t :: repl ps os
theorem replq1 (u : List (List Int)) : repl [] u = [] := rfl
theorem replq2 (t : List Int) (ps : List (List Int × Bool)) : repl ((t, true) :: ps) [] = t :: repl ps [] := rfl
theorem replq3 (fst : List Int) (ps : List (List Int × Bool)) (o : List Int) (os : List (List Int)) : repl ((fst, true) :: ps) (o :: os) = o :: repl ps os := rfl
theorem replq4 (u : List (List Int)) (t : List Int) (ps : List (List Int × Bool)) : repl ((t, false) :: ps) u = t :: repl ps u := rfl
theorem repl_len : ∀ (ps : List (List Int × Bool)) (os : List (List Int)), (repl ps os).length = ps.length
  | [], _ => rfl
  | (t, true) :: ps, [] => by simp [replq1, replq2, replq3, replq4, repl_len ps]
  | (_, true) :: ps, o :: os => by simp [replq1, replq2, replq3, replq4, repl_len ps]
  | (t, false) :: ps, os => by simp [replq1, replq2, replq3, replq4, repl_len ps]
theorem repl_nil (ps : List (List Int × Bool)) (os : List (List Int)) : repl ps os = [] ↔ ps = [] := by
  rw [← List.length_eq_zero_iff, repl_len, List.length_eq_zero_iff]
theorem slice_app (l : List Int) {a b c : Nat} (h1 : a ≤ b) (h2 : b ≤ c) : slice l a b ++ slice l b c = slice l a c := by
  simp only [slice]
  rw [show c - a = (b - a) + (c - b) by (first | lia | omega), List.take_add, List.drop_drop, show a + (b - a) = b by (first | lia | omega)]
theorem slice_of {l x y : List Int} {a : Nat} (h : l.drop a = x ++ y) : slice l a (a + x.length) = x := by
  simp only [slice, h, show a + x.length - a = x.length by (first | lia | omega), List.take_left']
theorem drop_of {l x y : List Int} {a : Nat} (h : l.drop a = x ++ y) : l.drop (a + x.length) = y := by
  rw [← List.drop_drop, h, List.drop_left]
theorem sep_of {C t : List Int} {ps : List (List Int)} {e : Bool} {a : Nat} (h : C.drop a = textL (t :: ps) e) :
    slice C a (a + t.length) = t ∧ slice C (a + t.length) (a + t.length + 1) = (if ps ≠ [] ∨ e = true then [10] else []) ∧ C.drop (a + t.length + 1) = textL ps e := by
  simp only [textLq1, textLq2, List.append_assoc] at h
  have h1 := drop_of h
  refine ⟨slice_of h, ?_, ?_⟩
  · by_cases hc : ps ≠ [] ∨ e = true
    · rw [if_pos hc] at h1 ⊢
      exact slice_of (x := [10]) h1
    · have hp : ps = [] := by
        cases ps with
        | nil => rfl
        | cons x xs => exact absurd (.inl (by simp)) hc
      rw [if_neg hc] at h1 ⊢
      subst hp
      simp only [textLq1, textLq2, List.append_nil] at h1
      simp [slice, h1]
  · by_cases hc : ps ≠ [] ∨ e = true
    · rw [if_pos hc] at h1
      exact drop_of (x := [10]) h1
    · have hp : ps = [] := by
        cases ps with
        | nil => rfl
        | cons x xs => exact absurd (.inl (by simp)) hc
      rw [if_neg hc] at h1
      subst hp
      simp only [textLq1, textLq2, List.append_nil] at h1 ⊢
      rw [← List.drop_drop, h1]; rfl
theorem putGo_text (C : List Int) (e : Bool) : ∀ (ps : List (List Int × Bool)) (a0 a : Nat) (recs os : List (Nat × Nat × D)), a ≤ a0 → C.drop a0 = textL (ps.map (·.1)) e → recs.map (fun r => (r.1, r.2.1)) = osp ps a0 → os.length = recs.length →
    putGo C recs os a = slice C a a0 ++ textL (repl ps (os.map fun o => slice C o.1 o.2.1)) e
  | [], a0, a, recs, os, h, hC, hr, ho => by
    have : recs = [] := by simpa [ospq1, ospq2] using hr
    subst this
    simp only [putGoq1, putGoq2, putGoq3, replq1, replq2, replq3, replq4, textLq1, textLq2, List.append_nil]
    rw [slice_drop h, hC]; simp [textLq1, textLq2]
  | (t, false) :: ps, a0, a, recs, os, h, hC, hr, ho => by
    obtain ⟨s1, s2, s3⟩ := sep_of (ps := ps.map (·.1)) hC
    have hr' : recs.map (fun r => (r.1, r.2.1)) = osp ps (a0 + t.length + 1) := by simpa [ospq1, ospq2] using hr
    rw [putGo_text C e ps (a0 + t.length + 1) a recs os (by (first | lia | omega)) s3 hr' ho]
    rw [← slice_app C h (show a0 ≤ a0 + t.length + 1 by (first | lia | omega)), ← slice_app C (show a0 ≤ a0 + t.length by (first | lia | omega)) (show a0 + t.length ≤ a0 + t.length + 1 by (first | lia | omega)), s1, s2]
    have hn : (ps.map (·.1) ≠ [] ∨ e = true) ↔ (repl ps (os.map fun o => slice C o.1 o.2.1) ≠ [] ∨ e = true) := by
      rw [ne_eq, ne_eq, repl_nil, List.map_eq_nil_iff]
    simp only [replq1, replq2, replq3, replq4, textLq1, textLq2, List.append_assoc, hn]
  | (t, true) :: ps, a0, a, recs, os, h, hC, hr, ho => by
    obtain ⟨s1, s2, s3⟩ := sep_of (ps := ps.map (·.1)) hC
    cases recs with
    | nil => simp [ospq1, ospq2] at hr
    | cons r recs =>
      cases os with
      | nil => simp at ho
      | cons o os =>
        simp only [ospq1, ospq2, if_true, List.map_cons, List.cons_append, List.nil_append, List.cons.injEq, Prod.mk.injEq] at hr
        obtain ⟨⟨r1, r2⟩, hr'⟩ := hr
        simp only [putGoq1, putGoq2, putGoq3, r1, r2, List.map_cons, replq1, replq2, replq3, replq4]
        rw [putGo_text C e ps (a0 + t.length + 1) (a0 + t.length) recs os (by (first | lia | omega)) s3 hr' (by simpa using ho), s2]
        have hn : (ps.map (·.1) ≠ [] ∨ e = true) ↔ (repl ps (os.map fun o => slice C o.1 o.2.1) ≠ [] ∨ e = true) := by
          rw [ne_eq, ne_eq, repl_nil, List.map_eq_nil_iff]
        simp only [textLq1, textLq2, List.append_assoc, hn]
theorem osp_slices (C : List Int) (e : Bool) : ∀ (ps : List (List Int × Bool)) (a : Nat), C.drop a = textL (ps.map (·.1)) e → (osp ps a).map (fun p => slice C p.1 p.2) = (ps.filter (·.2)).map (·.1)
  | [], a, _ => rfl
  | (t, b) :: ps, a, h => by
    obtain ⟨s1, s2, s3⟩ := sep_of (ps := ps.map (·.1)) h
    have ih := osp_slices C e ps (a + t.length + 1) s3
    cases b with
    | true => simp [ospq1, ospq2, ih, s1]
    | false => simp [ospq1, ospq2, ih]
theorem osp_in : ∀ (ps : List (List Int × Bool)) (a : Nat) (e : Bool), ∀ p ∈ osp ps a, a ≤ p.1 ∧ p.1 ≤ p.2 ∧ p.2 ≤ a + (textL (ps.map (·.1)) e).length
  | [], a, e, p, h => by simp [ospq1, ospq2] at h
  | (t, b) :: ps, a, e, p, h => by
    simp only [ospq1, ospq2, List.mem_append] at h
    simp only [List.map_cons, textLq1, textLq2, List.length_append]
    rcases h with h | h
    · cases b with
      | true =>
        simp only [if_true, List.mem_singleton] at h
        subst h
        simp; (first | lia | omega)
      | false => simp at h
    · have ih := osp_in ps (a + t.length + 1) e p h
      have hne : ps.map (·.1) ≠ [] := by
        cases ps with
        | nil => simp [ospq1, ospq2] at h
        | cons x xs => simp
      rw [if_pos (.inl hne)]
      simp only [List.length_cons, List.length_nil]
      (first | lia | omega)
theorem osp_rows : ∀ (rows : List (List Int)) (a : Nat), osp (rows.map fun r => (r, true)) a = offs rows a
  | [], a => rfl
  | r :: rs, a => by simp [ospq1, ospq2, offsq1, offsq2, osp_rows rs]
theorem repl_rows : ∀ (rows os : List (List Int)), os.length = rows.length → repl (rows.map fun r => (r, true)) os = os
  | [], os, h => by simp at h; subst h; rfl
  | r :: rs, [], h => by simp at h
  | r :: rs, o :: os, h => by simp [replq1, replq2, replq3, replq4, repl_rows rs os (by simpa using h)]
theorem offs_len : ∀ (rows : List (List Int)) (a : Nat), (offs rows a).length = rows.length
  | [], a => rfl
  | r :: rs, a => by simp [offsq1, offsq2, offs_len rs]
theorem rows_true : ∀ (rows : List (List Int)), ((rows.map fun r => (r, true)).filter (fun p : List Int × Bool => p.2)).map (fun p : List Int × Bool => p.1) = rows
  | [] => rfl
  | r :: rs => by
    simp only [List.map_cons, List.filter_cons, if_true, rows_true rs]
theorem rows_fst : ∀ (rows : List (List Int)), (rows.map fun r => (r, true)).map (fun p : List Int × Bool => p.1) = rows
  | [] => rfl
  | r :: rs => by simp only [List.map_cons, rows_fst rs]
theorem offs_slices (rows : List (List Int)) (e : Bool) : (offs rows 0).map (fun p => slice (textL rows e) p.1 p.2) = rows := by
  have h := osp_slices (textL rows e) e (rows.map fun r => (r, true)) 0 (by rw [rows_fst]; rfl)
  rw [osp_rows] at h
  rw [h]; exact rows_true rows
theorem put_rows (rows : List (List Int)) (e : Bool) (recs os : List (Nat × Nat × D)) (hr : recs.map (fun r => (r.1, r.2.1)) = offs rows 0) (ho : os.length = recs.length) :
    putGo (textL rows e) recs os 0 = textL (os.map fun o => slice (textL rows e) o.1 o.2.1) e := by
  have hl : recs.length = rows.length := by
    have := congrArg List.length hr
    rw [offs_len, List.length_map] at this
    exact this
  rw [putGo_text (textL rows e) e (rows.map fun r => (r, true)) 0 0 recs os (Nat.le_refl _) (by rw [rows_fst]; rfl) (by rw [osp_rows]; exact hr) ho]
  rw [repl_rows rows _ (by rw [List.length_map, ho, hl])]
  simp [slice]
theorem turn_rows (rows : List (List Int)) (e : Bool) : turnT (textL rows e) (offs rows 0) = textL rows.reverse e := by
  unfold turnT
  rw [put_rows rows e _ _ (by simp [Function.comp_def]) (by simp)]
  congr 1
  have h := offs_slices rows e
  have h2 := congrArg List.reverse h
  rw [← List.map_reverse] at h2
  rw [← h2, List.map_map]
  rfl
noncomputable def lo (l : List Int) : Prop := ∀ c ∈ l, c < 192
theorem okc_lo {r : List Int} (h : ∀ c ∈ r, okc c) : lo r := fun c hc => by
  have := h c hc; unfold okc at this; (first | lia | omega)
theorem okc_no10 {r : List Int} (h : ∀ c ∈ r, okc c) : no10 r := fun c hc => by
  have := h c hc; unfold okc at this; (first | lia | omega)
theorem okc_no9 {r : List Int} (h : ∀ c ∈ r, okc c) : ∀ c ∈ r, c ≠ 9 := fun c hc => by
  have := h c hc; unfold okc at this; (first | lia | omega)
theorem lo_text (e : Bool) : ∀ (rows : List (List Int)), (∀ r ∈ rows, lo r) → lo (textL rows e)
  | [], _ => by simp [textLq1, textLq2, lo]
  | r :: rs, h => by
    intro c hc
    simp only [textLq1, textLq2, List.mem_append] at hc
    rcases hc with (hc | hc) | hc
    · exact h r (by simp) c hc
    · split at hc
      · rw [List.mem_singleton.mp hc]; decide
      · simp at hc
    · exact lo_text e rs (fun x hx => h x (List.mem_cons_of_mem _ hx)) c hc
theorem lo_slice {l : List Int} (h : lo l) (a b : Nat) : lo (slice l a b) := fun c hc => h c (List.mem_of_mem_drop (List.mem_of_mem_take hc))
theorem keyT_sm (folds : Bool) {r : List Int} (h : lo r) : keyT folds r = r.map (sm folds) := by
  cases folds with
  | false =>
    have : sm false = id := funext fun x => by simp [sm]
    simp [keyT, this]
  | true =>
    simp only [keyT, if_true]
    apply List.map_congr_left
    intro c hc
    have := h c hc
    unfold dc sm
    by_cases h1 : 65 ≤ c <;> by_cases h2 : c ≤ 90 <;> simp [h1, h2] <;> (first | lia | omega)
theorem fAt_map {α β : Type} (f : α → β) (l : List α) (n : Int) : fAt (l.map f) n = (fAt l n).map f := by
  unfold fAt
  split
  · simp
  · split
    · simp
    · simp
theorem slice_in {C r rest : List Int} {a x y : Nat} (h : C.drop a = r ++ rest) (hx : x ≤ r.length) (hy : y ≤ r.length) : slice C (a + x) (a + y) = slice r x y := by
  simp only [slice]
  rw [← List.drop_drop, h, show a + y - (a + x) = y - x by (first | lia | omega), List.drop_append_of_le_length hx, List.take_append_of_le_length (by rw [List.length_drop]; (first | lia | omega))]
theorem slice_min (r : List Int) (x y : Nat) : slice r (min x r.length) (min y r.length) = slice r x y := by
  simp only [slice]
  rcases Nat.le_total x r.length with h | h
  · rw [Nat.min_eq_left h]
    rcases Nat.le_total y r.length with h' | h'
    · rw [Nat.min_eq_left h']
    · rw [Nat.min_eq_right h', List.take_of_length_le (by simp), List.take_of_length_le (by simp; (first | lia | omega))]
  · rw [Nat.min_eq_right h, List.drop_length, List.drop_eq_nil_of_le h]; simp
theorem offs_map {α : Type} {C : List Int} {e : Bool} {K : Nat × Nat → α} {G : List Int → α} : ∀ (rows : List (List Int)) (a : Nat), C.drop a = textL rows e → (∀ a r rest, r ∈ rows → C.drop a = r ++ rest → K (a, a + r.length) = G r) → (offs rows a).map K = rows.map G
  | [], a, _, _ => rfl
  | r :: rs, a, h, hK => by
    obtain ⟨s1, s2, s3⟩ := sep_of h
    simp only [offsq1, offsq2, List.map_cons]
    rw [offs_map rs (a + r.length + 1) s3 fun a x rest hx hd => hK a x rest (List.mem_cons_of_mem _ hx) hd]
    rw [hK a r _ (by simp) (by rw [h, textLq2, List.append_assoc])]
theorem spF_A {C : List Int} : ∀ (r : List Int), (∀ c ∈ r, c ≠ 9) → (∀ (a : Nat) (rest : List Int), C.drop a = r ++ rest → (spF r a none).map (fun p => slice C p.1 p.2) = lfs (r ++ [32]) []) ∧
    (∀ (a s : Nat) (own rest : List Int), C.drop a = r ++ rest → own ≠ [] → slice C s a = own → s < a → (spF r a (some s)).map (fun p => slice C p.1 p.2) = lfs (r ++ [32]) own)
  | [], _ => ⟨fun a rest _ => by simp [spFq1, spFq2, spFq3, spFq4, lfsq1, lfsq2], fun a s own rest _ ho hs _ => by simp [spFq1, spFq2, spFq3, spFq4, lfsq1, lfsq2, ho, hs]⟩
  | c :: r, h => by
    have hc := h c (by simp)
    obtain ⟨i1, i2⟩ := spF_A (C := C) r fun x hx => h x (List.mem_cons_of_mem _ hx)
    have hgap : gap c = (c == 32) := by
      unfold gap
      have : (c == 9) = false := by simpa using hc
      rw [this, Bool.or_false]
    refine ⟨fun a rest hd => ?_, fun a s own rest hd ho hs hlt => ?_⟩
    · obtain ⟨d1, d2, d3⟩ := drop_cons (t := r ++ rest) hd
      by_cases h32 : c = 32
      · subst h32
        simp only [spFq1, spFq2, spFq3, spFq4, hgap, BEq.rfl, if_true, List.cons_append, lfsq1, lfsq2]
        exact i1 (a + 1) rest d2
      · have hb : (c == 32) = false := by simpa using h32
        simp only [spFq1, spFq2, spFq3, spFq4, hgap, hb, Bool.false_eq_true, if_false, List.cons_append, lfsq1, lfsq2, h32, List.nil_append]
        exact i2 (a + 1) a [c] rest d2 (by simp) (slice_of (x := [c]) hd) (by (first | lia | omega))
    · obtain ⟨d1, d2, d3⟩ := drop_cons (t := r ++ rest) hd
      by_cases h32 : c = 32
      · subst h32
        simp only [spFq1, spFq2, spFq3, spFq4, hgap, BEq.rfl, if_true, List.cons_append, lfsq1, lfsq2, ho, if_false, List.map_cons, hs]
        rw [i1 (a + 1) rest d2]
      · have hb : (c == 32) = false := by simpa using h32
        simp only [spFq1, spFq2, spFq3, spFq4, hgap, hb, Bool.false_eq_true, if_false, List.cons_append, lfsq1, lfsq2, h32]
        refine i2 (a + 1) s (own ++ [c]) rest d2 (by simp) ?_ (by (first | lia | omega))
        rw [← slice_app C (show s ≤ a by (first | lia | omega)) (show a ≤ a + 1 by (first | lia | omega)), hs, show slice C a (a + 1) = [c] from slice_of (x := [c]) hd]
theorem fieldsP_row {C r rest : List Int} {a : Nat} (h : C.drop a = r ++ rest) (h9 : ∀ c ∈ r, c ≠ 9) : (fieldsP C (a, a + r.length)).map (fun p => slice C p.1 p.2) = fieldsT r := by
  unfold fieldsP
  simp only [slice_of h]
  exact (spF_A r h9).1 a rest h
theorem fldGo_spec (mk : Nat × Nat → Nat × Nat → Nat × Nat × D) (fa : Nat × Nat → Option (Nat × Nat)) (hm : ∀ p q, (mk p q).1 = p.1 ∧ (mk p q).2.1 = p.2 ∧ D.eqv (mk p q).2.2 .none = false) : ∀ (ps : List (Nat × Nat)) (done : List (Nat × Nat × D)),
    ((ps.map fun p => match fa p with | none => D.none | some q => (mk p q).2.2).any (fun y => D.eqv y .none) = true → fldGo mk fa ps done = .none) ∧
    ((ps.map fun p => match fa p with | none => D.none | some q => (mk p q).2.2).any (fun y => D.eqv y .none) = false → ∃ recs, fldGo mk fa ps done = .list ((done ++ recs).map recD) ∧ recs.map (fun r => (r.1, r.2.1)) = ps ∧ recs.map (fun r => r.2.2) = (ps.map fun p => match fa p with | none => D.none | some q => (mk p q).2.2))
  | [], done => ⟨fun h => by simp at h, fun _ => ⟨[], by simp [fldGoq1, fldGoq2], rfl, rfl⟩⟩
  | p :: ps, done => by
    cases hf : fa p with
    | none =>
      refine ⟨fun _ => by simp [fldGoq1, fldGoq2, hf], fun h => ?_⟩
      simp [hf, Deqvq1, Deqvq3, Deqvq4, Deqvq6, Deqvq7, Deqvq9, Deqvq11, Deqvq20, Deqvq21, Deqvq22, Deqvq23, Deqvq24, Deqvq25] at h
    | some q =>
      obtain ⟨m1, m2, m3⟩ := hm p q
      obtain ⟨i1, i2⟩ := fldGo_spec mk fa hm ps (done ++ [mk p q])
      simp only [List.map_cons, hf, List.any_cons, m3, Bool.false_or, fldGoq1, fldGoq2]
      refine ⟨i1, fun h => ?_⟩
      obtain ⟨recs, e1, e2, e3⟩ := i2 h
      exact ⟨mk p q :: recs, by rw [e1]; simp, by simp [e2, m1, m2], by simp [e3]⟩
theorem put_keys (rows : List (List Int)) (e rv : Bool) (recs : List (Nat × Nat × D)) (ks : List D) (hr : recs.map (fun r => (r.1, r.2.1)) = offs rows 0) (hk : recs.map (fun r => r.2.2) = ks) (hok : keysOk ks = true) :
    putGo (textL rows e) recs (ordL recs rv) 0 = textL ((ordK ks rv).map fun i => rows.getD i []) e ∧ (ordL recs rv).length = recs.length := by
  have ho := ord_eq recs (0, 0, .none) rv (by rw [hk]; exact hok)
  rw [hk] at ho
  have hkl : ks.length = recs.length := by rw [← hk, List.length_map]
  have hlen : (ordL recs rv).length = recs.length := by rw [ho, List.length_map, ordK_len, hkl]
  refine ⟨?_, hlen⟩
  rw [put_rows rows e recs _ hr hlen, ho, List.map_map]
  congr 1
  apply List.map_congr_left
  intro i hi
  have hi' : i < recs.length := by rw [← hkl]; exact ordK_lt hi
  have hs : recs.map (fun o => slice (textL rows e) o.1 o.2.1) = rows := by
    have := congrArg (List.map fun p : Nat × Nat => slice (textL rows e) p.1 p.2) hr
    rw [offs_slices, List.map_map] at this
    exact this
  have h1 : rows[i]? = some (slice (textL rows e) recs[i].1 recs[i].2.1) := by
    have := congrArg (fun l : List (List Int) => l[i]?) hs
    simp only [List.getElem?_map, List.getElem?_eq_getElem hi', Option.map_some] at this
    exact this.symm
  simp only [Function.comp_def, List.getD, List.getElem?_eq_getElem hi', h1, Option.getD_some]
noncomputable def Agree (C : List Int) (rv : Bool) (rec due : D) : Prop :=
  (rec = .none ∧ due = .none) ∨ ∃ (rs : List (Nat × Nat × D)) (w : List Int), rec = .list (rs.map recD) ∧ due = IL w ∧ keysOk (rs.map fun p => p.2.2) = true ∧ rs.length ≤ 5 ∧
    (∀ p ∈ rs, p.1 ≤ C.length ∧ p.2.1 ≤ C.length) ∧ putGo C rs (ordL rs rv) 0 = w ∧ (ordL rs rv).length = rs.length
theorem offs_in (rows : List (List Int)) (e : Bool) : ∀ p ∈ offs rows 0, p.1 ≤ p.2 ∧ p.2 ≤ (textL rows e).length := by
  intro p hp
  rw [← osp_rows] at hp
  have := osp_in _ 0 e p hp
  rw [rows_fst] at this
  (first | lia | omega)
theorem pos_in {C : List Int} {recs : List (Nat × Nat × D)} {ps : List (Nat × Nat)} (hr : recs.map (fun r => (r.1, r.2.1)) = ps) (h : ∀ p ∈ ps, p.1 ≤ p.2 ∧ p.2 ≤ C.length) : ∀ p ∈ recs, p.1 ≤ C.length ∧ p.2.1 ≤ C.length := by
  intro p hp
  have := h (p.1, p.2.1) (by rw [← hr]; exact List.mem_map.mpr ⟨p, hp, rfl⟩)
  simp only at this
  (first | lia | omega)
theorem agree_keys (rows : List (List Int)) (e rv : Bool) (hn : rows.length ≤ 5) (recs : List (Nat × Nat × D)) (ks : List D) (hr : recs.map (fun r => (r.1, r.2.1)) = offs rows 0) (hk : recs.map (fun r => r.2.2) = ks) (hok : keysOk ks = true) :
    Agree (textL rows e) rv (.list (recs.map recD)) (IL (textL ((ordK ks rv).map fun i => rows.getD i []) e)) := by
  obtain ⟨h1, h2⟩ := put_keys rows e rv recs ks hr hk hok
  have hl : recs.length = rows.length := by
    have := congrArg List.length hr
    rw [offs_len, List.length_map] at this
    exact this
  exact .inr ⟨recs, _, rfl, rfl, by rw [hk]; exact hok, by (first | lia | omega), pos_in hr (offs_in rows e), h1, h2⟩
theorem agree_rows (rows : List (List Int)) (e rv : Bool) (hn : rows.length ≤ 5) (hc : ∀ r ∈ rows, ∀ c ∈ r, okc c) (he : endOk rows e) (way n : Int) (hw : way = 0 ∨ way = 2 ∨ way = 3 ∨ way = 4) (f g : Nat) (folds : Bool) :
    Agree (textL rows e) rv (recsT (textL rows e) way n f g folds) (dueT rows way n f g folds rv e) := by
  have hrows : rowsL (textL rows e) 0 0 = offs rows 0 := rowsL_text e rows 0 (fun r hr => okc_no10 (hc r hr)) he
  have hlo : lo (textL rows e) := lo_text e rows fun r hr => okc_lo (hc r hr)
  unfold recsT dueT
  rw [hrows]
  have hw1 : way ≠ 1 := by (first | lia | omega)
  rw [if_neg hw1, if_neg hw1]
  have hok := keysW_ok rows way n f g folds
  rcases hw with rfl | rfl | rfl | rfl
  · -- whole rows
    have hks : (rows.map fun r => keyD r 0 n f g folds) = rows.map fun r => IL (r.map (sm folds)) := rfl
    have hany : (rows.map fun r => keyD r 0 n f g folds).any (fun y => D.eqv y .none) = false := by
      rw [List.any_eq_false]
      intro d hd
      rw [hks] at hd
      obtain ⟨r, _, rfl⟩ := List.mem_map.mp hd
      simp [Deqvq1, Deqvq3, Deqvq4, Deqvq6, Deqvq7, Deqvq9, Deqvq11, Deqvq20, Deqvq21, Deqvq22, Deqvq23, Deqvq24, Deqvq25]
    rw [if_pos rfl, hany]
    refine agree_keys rows e rv hn _ _ (by rw [List.map_map]; exact List.map_id'' (fun _ => rfl) _) ?_ (hok hany)
    rw [List.map_map]
    refine offs_map (C := textL rows e) (e := e) rows 0 rfl fun a r rest hr hd => ?_
    show IL (keyT folds (slice (textL rows e) a (a + r.length))) = IL (r.map (sm folds))
    rw [slice_of hd, keyT_sm folds (okc_lo (hc r hr))]
  · -- fields
    rw [if_neg (by decide), if_neg (by decide), if_pos rfl]
    have hks : ((offs rows 0).map fun p => match fAt (fieldsP (textL rows e) p) n with | none => D.none | some q => (fldRec (textL rows e) folds p q).2.2) = rows.map fun r => keyD r 2 n f g folds := by
      refine offs_map (C := textL rows e) (e := e) rows 0 rfl fun a r rest hr hd => ?_
      have h := fieldsP_row hd (okc_no9 (hc r hr))
      show _ = keyF 2 folds (fAt (fieldsT r) n)
      rw [← h, fAt_map]
      cases fAt (fieldsP (textL rows e) (a, a + r.length)) n with
      | none => rfl
      | some q =>
        show IL (keyT folds (slice (textL rows e) q.1 q.2)) = IL ((slice (textL rows e) q.1 q.2).map (sm folds))
        rw [keyT_sm folds (lo_slice hlo _ _)]
    obtain ⟨s1, s2⟩ := fldGo_spec (fldRec (textL rows e) folds) (fun p => fAt (fieldsP (textL rows e) p) n) (fun p q => ⟨rfl, rfl, by simp [fldRec, Deqvq1, Deqvq3, Deqvq4, Deqvq6, Deqvq7, Deqvq9, Deqvq11, Deqvq20, Deqvq21, Deqvq22, Deqvq23, Deqvq24, Deqvq25]⟩) (offs rows 0) []
    rw [hks] at s1 s2
    cases ha : (rows.map fun r => keyD r 2 n f g folds).any (fun y => D.eqv y .none) with
    | true => exact .inl ⟨s1 ha, by rw [if_pos rfl]⟩
    | false =>
      obtain ⟨recs, e1, e2, e3⟩ := s2 ha
      rw [e1]
      exact agree_keys rows e rv hn recs _ e2 e3 (hok ha)
  · -- numbers
    rw [if_neg (by decide), if_neg (by decide), if_neg (by decide)]
    have hks : ((offs rows 0).map fun p => match fAt (fieldsP (textL rows e) p) n with | none => D.none | some q => (numRec (numP (textL rows e)) p q).2.2) = rows.map fun r => keyD r 3 n f g folds := by
      refine offs_map (C := textL rows e) (e := e) rows 0 rfl fun a r rest hr hd => ?_
      have h := fieldsP_row hd (okc_no9 (hc r hr))
      show _ = keyF 3 folds (fAt (fieldsT r) n)
      rw [← h, fAt_map]
      cases fAt (fieldsP (textL rows e) (a, a + r.length)) n with
      | none => rfl
      | some q => rfl
    obtain ⟨s1, s2⟩ := fldGo_spec (numRec (numP (textL rows e))) (fun p => fAt (fieldsP (textL rows e) p) n) (fun p q => ⟨rfl, rfl, by simp [numRec, Deqvq1, Deqvq3, Deqvq4, Deqvq6, Deqvq7, Deqvq9, Deqvq11, Deqvq20, Deqvq21, Deqvq22, Deqvq23, Deqvq24, Deqvq25]⟩) (offs rows 0) []
    rw [hks] at s1 s2
    cases ha : (rows.map fun r => keyD r 3 n f g folds).any (fun y => D.eqv y .none) with
    | true => exact .inl ⟨s1 ha, by rw [if_pos rfl]⟩
    | false =>
      obtain ⟨recs, e1, e2, e3⟩ := s2 ha
      rw [e1]
      exact agree_keys rows e rv hn recs _ e2 e3 (hok ha)
  · -- columns
    rw [if_neg (by decide), if_pos rfl]
    have hks : (rows.map fun r => keyD r 4 n f g folds) = rows.map fun r => IL ((slice r f g).map (sm folds)) := rfl
    have hany : (rows.map fun r => keyD r 4 n f g folds).any (fun y => D.eqv y .none) = false := by
      rw [List.any_eq_false]
      intro d hd
      rw [hks] at hd
      obtain ⟨r, _, rfl⟩ := List.mem_map.mp hd
      simp [Deqvq1, Deqvq3, Deqvq4, Deqvq6, Deqvq7, Deqvq9, Deqvq11, Deqvq20, Deqvq21, Deqvq22, Deqvq23, Deqvq24, Deqvq25]
    rw [hany]
    refine agree_keys rows e rv hn _ _ (by rw [List.map_map]; exact List.map_id'' (fun _ => rfl) _) ?_ (hok hany)
    rw [List.map_map]
    refine offs_map (C := textL rows e) (e := e) rows 0 rfl fun a r rest hr hd => ?_
    show IL (keyT folds (slice (textL rows e) (min (a + f) (a + r.length)) (min (a + g) (a + r.length)))) = IL ((slice r f g).map (sm folds))
    rw [Nat.add_min_add_left, Nat.add_min_add_left, slice_in hd (Nat.min_le_right _ _) (Nat.min_le_right _ _), slice_min, keyT_sm folds (lo_slice (okc_lo (hc r hr)) _ _)]
theorem text_app (e : Bool) : ∀ (x : List Int) (xs ys : List (List Int)), textL (x :: xs ++ ys) e = textL (x :: xs) false ++ (if ys ≠ [] ∨ e = true then [10] else []) ++ textL ys e
  | x, [], ys => by simp [textLq1, textLq2]
  | x, y :: xs, ys => by
    have ih := text_app e y xs ys
    have h1 : textL (x :: y :: xs ++ ys) e = x ++ [10] ++ textL (y :: xs ++ ys) e := by simp [textLq1, textLq2]
    have h2 : textL (x :: y :: xs) false = x ++ [10] ++ textL (y :: xs) false := by simp [textLq1, textLq2]
    rw [h1, h2, ih]; simp only [List.append_assoc]
theorem flat_nil {α : Type} : ∀ (gs : List (List α)), (∀ g ∈ gs, g ≠ []) → (gs.flatten = [] ↔ gs = [])
  | [], _ => by simp
  | g :: gs, h => by simp [h g (by simp)]
theorem text_groups (e : Bool) : ∀ (gs : List (List (List Int))), (∀ g ∈ gs, g ≠ []) → textL gs.flatten e = textL (gs.map fun g => textL g false) e
  | [], _ => rfl
  | g :: gs, h => by
    have ih := text_groups e gs fun x hx => h x (List.mem_cons_of_mem _ hx)
    have hf := flat_nil gs fun x hx => h x (List.mem_cons_of_mem _ hx)
    have hg := h g (by simp)
    cases g with
    | nil => exact absurd rfl hg
    | cons x xs =>
      rw [List.flatten_cons, text_app e x xs gs.flatten, ih]
      have : (gs.flatten ≠ [] ∨ e = true) ↔ ((gs.map fun g => textL g false) ≠ [] ∨ e = true) := by
        rw [ne_eq, ne_eq, hf, List.map_eq_nil_iff]
      simp only [List.map_cons, this]
      rfl
noncomputable def pieceG (g : List (List Int)) : List Int × Bool := (textL g false, ownG g)
noncomputable def tot : List (List Int × Bool) → Nat
  | [] => 0
  | p :: ps => p.1.length + 1 + tot ps
theorem totq1 : tot [] = 0 := rfl
theorem totq2 (p : List Int × Bool) (ps : List (List Int × Bool)) : tot (p :: ps) = p.fst.length + 1 + tot ps := rfl
theorem tot_app : ∀ (xs ys : List (List Int × Bool)), tot (xs ++ ys) = tot xs + tot ys
  | [], ys => by simp [totq1, totq2]
  | x :: xs, ys => by simp only [List.cons_append, totq1, totq2, tot_app xs ys]; (first | lia | omega)
theorem osp_app : ∀ (xs ys : List (List Int × Bool)) (a : Nat), osp (xs ++ ys) a = osp xs a ++ osp ys (a + tot xs)
  | [], ys, a => rfl
  | (t, b) :: xs, ys, a => by
    simp only [List.cons_append, ospq1, ospq2, totq1, totq2, osp_app xs ys, List.append_assoc]
    rw [show a + t.length + 1 + tot xs = a + (t.length + 1 + tot xs) by (first | lia | omega)]
theorem osp_tot : ∀ (ps : List (List Int × Bool)) (a : Nat), ∀ p ∈ osp ps a, p.2 + 1 ≤ a + tot ps
  | [], a, p, h => by simp [ospq1, ospq2] at h
  | (t, b) :: ps, a, p, h => by
    simp only [ospq1, ospq2, List.mem_append] at h
    simp only [totq1, totq2]
    rcases h with h | h
    · cases b with
      | true =>
        simp only [if_true, List.mem_singleton] at h
        subst h
        simp only; (first | lia | omega)
      | false => simp at h
    · have := osp_tot ps _ p h; (first | lia | omega)
theorem piece_one (r : List Int) : pieceG [r] = (r, !blk r) := by simp [pieceG, textLq1, textLq2, ownG]
theorem own_snoc {g : List (List Int)} (h : g ≠ []) (r : List Int) : ownG (g ++ [r]) = ownG g := by
  cases g with
  | nil => exact absurd rfl h
  | cons x xs => rfl
theorem text_snoc {g : List (List Int)} (h : g ≠ []) (r : List Int) : (textL (g ++ [r]) false).length = (textL g false).length + 1 + r.length := by
  cases g with
  | nil => exact absurd rfl h
  | cons x xs =>
    rw [text_app false x xs [r]]
    simp [textLq1, textLq2]; (first | lia | omega)
theorem fl_row {C r rest : List Int} {a : Nat} (h : C.drop a = r ++ rest) (h9 : ∀ c ∈ r, c ≠ 9) : (!(fieldsP C (a, a + r.length)).isEmpty) = !blk r := by
  have := fieldsP_row h h9
  unfold blk
  rw [← this]
  cases fieldsP C (a, a + r.length) <;> rfl
theorem blk_nil : blk [] = true := rfl
theorem par_go (C : List Int) (e : Bool) : ∀ (rs : List (List Int)) (a : Nat) (done : List (List (List Int))) (last : List (List Int)) (op : Bool), (∀ r ∈ rs, ∀ c ∈ r, c ≠ 9) → C.drop a = textL rs e → last ≠ [] → op = ownG last → a = tot ((done ++ [last]).map pieceG) →
    parGo (fun p => !(fieldsP C p).isEmpty) (offs rs a) (osp ((done ++ [last]).map pieceG) 0) = osp ((grpGo rs done last op).map pieceG) 0
  | [], a, done, last, op, _, _, _, _, _ => rfl
  | r :: rs, a, done, last, op, h9, hC, hl, ho, ha => by
    obtain ⟨s1, s2, s3⟩ := sep_of hC
    have hd : C.drop a = r ++ ((if rs ≠ [] ∨ e = true then [10] else []) ++ textL rs e) := by rw [hC, textLq2, List.append_assoc]
    have hfl := fl_row hd (h9 r (by simp))
    have h9' : ∀ x ∈ rs, ∀ c ∈ x, c ≠ 9 := fun x hx => h9 x (List.mem_cons_of_mem _ hx)
    have hnew : ∀ g, tot ((done ++ [last] ++ [g]).map pieceG) = a + ((textL g false).length + 1) := fun g => by
      rw [List.map_append, tot_app, ← ha]; simp [totq1, totq2, pieceG]
    have hone : textL [r] false = r := by simp [textLq1, textLq2]
    cases hb : blk r with
    | true =>
      rw [hb] at hfl
      simp only [offsq1, offsq2, parGoq1, parGoq2, grpGoq1, grpGoq2, hfl, hb, Bool.not_true, Bool.and_false, Bool.false_eq_true, and_false, if_false]
      rw [← par_go C e rs (a + r.length + 1) (done ++ [last]) [r] false h9' s3 (by simp) (by simp [ownG, hb]) (by rw [hnew, hone]; (first | lia | omega))]
      congr 1
      rw [List.map_append (l₁ := done ++ [last]), osp_app]
      simp [ospq1, ospq2, piece_one, hb]
    | false =>
      rw [hb] at hfl
      have hlt : a < a + r.length := by
        cases r with
        | nil => rw [blk_nil] at hb; cases hb
        | cons c r => simp
      cases hop : op with
      | true =>
        rw [hop] at ho
        have hp1 : pieceG last = (textL last false, true) := by simp [pieceG, ← ho]
        have hfound : osp ((done ++ [last]).map pieceG) 0 = osp (done.map pieceG) 0 ++ [(tot (done.map pieceG), tot (done.map pieceG) + (textL last false).length)] := by
          rw [List.map_append, osp_app]
          simp [ospq1, ospq2, hp1]
        have ha' : a = tot (done.map pieceG) + ((textL last false).length + 1) := by
          rw [ha, List.map_append, tot_app]; simp [totq1, totq2, pieceG]
        have hnext : osp ((done ++ [last ++ [r]]).map pieceG) 0 = osp (done.map pieceG) 0 ++ [(tot (done.map pieceG), a + r.length)] := by
          rw [List.map_append, osp_app]
          have : pieceG (last ++ [r]) = (textL (last ++ [r]) false, true) := by simp [pieceG, own_snoc hl, ← ho]
          simp only [List.map_cons, List.map_nil, this, ospq1, ospq2, if_true, Nat.zero_add, List.append_nil, text_snoc hl]
          congr 3
          (first | lia | omega)
        simp only [offsq1, offsq2, parGoq1, parGoq2, grpGoq1, grpGoq2, hfl, hb, Bool.not_false, Bool.and_self, if_true]
        rw [if_pos ⟨hlt, trivial⟩, hfound]
        simp only [List.getLast?_append, List.getLast?_singleton, Option.some_or, List.dropLast_concat]
        rw [if_pos (by (first | lia | omega))]
        rw [← par_go C e rs (a + r.length + 1) done (last ++ [r]) true h9' s3 (by simp) (by rw [own_snoc hl, ← ho]) (by rw [List.map_append, tot_app]; simp only [List.map_cons, List.map_nil, totq1, totq2, pieceG, text_snoc hl]; (first | lia | omega))]
        rw [hnext]
      | false =>
        rw [hop] at ho
        have hp1 : pieceG last = (textL last false, false) := by simp [pieceG, ← ho]
        have hfound : osp ((done ++ [last]).map pieceG) 0 = osp (done.map pieceG) 0 := by
          rw [List.map_append, osp_app]
          simp [ospq1, ospq2, hp1]
        have ha' : a = tot (done.map pieceG) + ((textL last false).length + 1) := by
          rw [ha, List.map_append, tot_app]; simp [totq1, totq2, pieceG]
        have hnext : osp ((done ++ [last] ++ [[r]]).map pieceG) 0 = osp (done.map pieceG) 0 ++ [(a, a + r.length)] := by
          rw [List.map_append (l₁ := done ++ [last]), osp_app, hfound, ← ha]
          simp [ospq1, ospq2, piece_one, hb]
        have hop2 : (false && !false) = false := rfl
        simp only [offsq1, offsq2, parGoq1, parGoq2, grpGoq1, grpGoq2, hfl, hb, Bool.not_false, Bool.false_and, Bool.false_eq_true, if_false]
        rw [if_pos ⟨hlt, trivial⟩, hfound]
        have hih := par_go C e rs (a + r.length + 1) (done ++ [last]) [r] true h9' s3 (by simp) (by simp [ownG, hb]) (by rw [hnew, hone]; (first | lia | omega))
        rw [hnext] at hih
        cases hg : (osp (done.map pieceG) 0).getLast? with
        | none => simp only; exact hih
        | some q =>
          have := osp_tot _ _ q (List.mem_of_getLast? hg)
          simp only
          rw [if_neg (by (first | lia | omega))]
          exact hih
theorem par_groups (rows : List (List Int)) (e : Bool) (h9 : ∀ r ∈ rows, ∀ c ∈ r, c ≠ 9) : parGo (fun p => !(fieldsP (textL rows e) p).isEmpty) (offs rows 0) [] = osp ((groupsT rows).map pieceG) 0 := by
  cases rows with
  | nil => rfl
  | cons r rs =>
    have hC : (textL (r :: rs) e).drop 0 = textL (r :: rs) e := rfl
    obtain ⟨s1, s2, s3⟩ := sep_of hC
    have hd : (textL (r :: rs) e).drop 0 = r ++ ((if rs ≠ [] ∨ e = true then [10] else []) ++ textL rs e) := by rw [hC, textLq2, List.append_assoc]
    have hfl := fl_row hd (h9 r (by simp))
    have hih := par_go (textL (r :: rs) e) e rs (0 + r.length + 1) [] [r] (!blk r) (fun x hx => h9 x (List.mem_cons_of_mem _ hx)) s3 (by simp) rfl (by simp [totq1, totq2, pieceG, textLq1, textLq2])
    simp only [groupsT]
    rw [← hih]
    generalize textL (r :: rs) e = C at *
    simp only [offsq1, offsq2, parGoq1, parGoq2, hfl]
    cases hb : blk r with
    | true => simp [ospq1, ospq2, piece_one, hb]
    | false =>
      have hlt : 0 < 0 + r.length := by
        cases r with
        | nil => rw [blk_nil] at hb; cases hb
        | cons c r => simp
      rw [if_pos ⟨hlt, by simp⟩]
      simp [ospq1, ospq2, piece_one, hb]
theorem own_texts_go (f : List (List Int) × Nat → Option Nat) (hf : f = fun p => if ownG p.1 then some p.2 else none) : ∀ (gs pre : List (List (List Int))), ((gs.zipIdx pre.length).filterMap f).map (textG (pre ++ gs)) = ((gs.map pieceG).filter (fun p : List Int × Bool => p.2)).map (fun p : List Int × Bool => p.1)
  | [], pre => rfl
  | g :: gs, pre => by
    have ih := own_texts_go f hf gs (pre ++ [g])
    rw [List.append_assoc, List.length_append, List.length_cons, List.length_nil] at ih
    simp only [List.cons_append, List.nil_append, Nat.zero_add] at ih
    have hg : textG (pre ++ g :: gs) pre.length = textL g false := by simp [textG, List.getD]
    rw [List.zipIdx_cons]
    subst hf
    cases ho : ownG g with
    | true => simp [ho, pieceG, hg] at ih ⊢; exact ih
    | false => simp [ho, pieceG] at ih ⊢; exact ih
theorem own_texts (gs : List (List (List Int))) : (ownP gs).map (textG gs) = ((gs.map pieceG).filter (fun p : List Int × Bool => p.2)).map (fun p : List Int × Bool => p.1) := own_texts_go _ rfl gs []
noncomputable def setL : List Nat → List (List Int) → List (List Int) → List (List Int)
  | p :: ps, x :: xs, t => setL ps xs (t.set p x)
  | _, _, t => t
theorem setLq1 (u : List (List Int)) (p : Nat) (ps : List Nat) (x_3 : List Int) (xs : List (List Int)) : setL (p :: ps) (x_3 :: xs) u = setL ps xs (u.set p x_3) := rfl
theorem setLq2 (u : List (List Int)) (t : List (List Int)) : setL [] u t = t := rfl
theorem setLq3 (u : List Nat) (t : List (List Int)) : setL u [] t = t := by cases u <;> rfl
theorem setL_nil : ∀ (pos : List Nat) (t : List (List Int)), setL pos [] t = t
  | [], _ => rfl
  | _ :: _, _ => rfl
theorem set_repl_go (f : List (List Int) × Nat → Option Nat) (hf : f = fun p => if ownG p.1 then some p.2 else none) : ∀ (gs : List (List (List Int))) (pre xs : List (List Int)), xs.length = ((gs.zipIdx pre.length).filterMap f).length →
    setL ((gs.zipIdx pre.length).filterMap f) xs (pre ++ gs.map fun g => textL g false) = pre ++ repl (gs.map pieceG) xs
  | [], pre, xs, h => by
    have : xs = [] := by simpa using h
    subst this
    simp [setLq1, setLq2, setLq3, replq1, replq2, replq3, replq4]
  | g :: gs, pre, xs, h => by
    rw [List.zipIdx_cons] at h ⊢
    subst hf
    cases ho : ownG g with
    | true =>
      simp only [List.filterMap_cons, ho, if_true] at h ⊢
      cases xs with
      | nil => simp at h
      | cons x xs =>
        have ih := set_repl_go _ rfl gs (pre ++ [x]) xs (by simpa using h)
        rw [List.length_append, List.length_cons, List.length_nil, Nat.zero_add] at ih
        have hp : pieceG g = (textL g false, true) := by simp [pieceG, ho]
        simp only [setLq1, setLq2, setLq3, List.map_cons, hp, replq1, replq2, replq3, replq4]
        have hset : (pre ++ textL g false :: gs.map fun g => textL g false).set pre.length x = pre ++ [x] ++ gs.map fun g => textL g false := by simp
        rw [hset, ih]; simp
    | false =>
      simp only [List.filterMap_cons, ho, Bool.false_eq_true, if_false] at h ⊢
      have ih := set_repl_go _ rfl gs (pre ++ [textL g false]) xs (by simpa using h)
      rw [List.length_append, List.length_cons, List.length_nil, Nat.zero_add] at ih
      have hp : pieceG g = (textL g false, false) := by simp [pieceG, ho]
      simp only [List.map_cons, hp, replq1, replq2, replq3, replq4]
      rw [show pre ++ textL g false :: (gs.map fun g => textL g false) = pre ++ [textL g false] ++ gs.map fun g => textL g false by simp, ih]; simp
theorem set_repl (gs : List (List (List Int))) (xs : List (List Int)) (h : xs.length = (ownP gs).length) : setL (ownP gs) xs (gs.map fun g => textL g false) = repl (gs.map pieceG) xs :=
  set_repl_go _ rfl gs [] xs h
theorem setGo_setL (gs : List (List (List Int))) (own : List Nat) : ∀ (ps js : List Nat) (t : List (List Int)), setGo gs own (ps.zip js) t = setL ps (js.map fun j => textG gs (own.getD j 0)) t
  | [], js, t => by simp [setGoq1, setGoq2, setLq1, setLq2, setLq3]
  | p :: ps, [], t => by simp [setGoq1, setGoq2, setLq1, setLq2, setLq3]
  | p :: ps, j :: js, t => by
    simp only [List.zip_cons_cons, setGoq1, setGoq2, List.map_cons, setLq1, setLq2, setLq3]
    exact setGo_setL gs own ps js _
theorem agree_groups (rows : List (List Int)) (e rv : Bool) (hn : rows.length ≤ 5) (hc : ∀ r ∈ rows, ∀ c ∈ r, okc c) (he : endOk rows e) (n : Int) (f g : Nat) (folds : Bool) :
    Agree (textL rows e) rv (recsT (textL rows e) 1 n f g folds) (dueT rows 1 n f g folds rv e) := by
  have hrows : rowsL (textL rows e) 0 0 = offs rows 0 := rowsL_text e rows 0 (fun r hr => okc_no10 (hc r hr)) he
  have hlo : lo (textL rows e) := lo_text e rows fun r hr => okc_lo (hc r hr)
  have hpar := par_groups rows e fun r hr => okc_no9 (hc r hr)
  have hC : textL rows e = textL (((groupsT rows).map pieceG).map (·.1)) e := by
    have := text_groups e (groupsT rows) (groups_ne rows)
    rw [groups_flat] at this
    rw [this, List.map_map]
    rfl
  have hgl : (groupsT rows).length ≤ 5 := by
    have h1 := flat_len (groupsT rows) (groups_ne rows)
    rw [groups_flat] at h1
    (first | lia | omega)
  unfold recsT dueT
  rw [hrows, hpar, if_neg (by decide), if_pos rfl, if_pos rfl]
  generalize groupsT rows = gs at *
  have hin : ∀ p ∈ osp (gs.map pieceG) 0, p.1 ≤ p.2 ∧ p.2 ≤ (textL rows e).length := fun p hp => by
    have := osp_in _ 0 e p hp
    rw [← hC] at this
    (first | lia | omega)
  have hsl := osp_slices (textL rows e) e (gs.map pieceG) 0 hC
  rw [← own_texts] at hsl
  have hlen : (osp (gs.map pieceG) 0).length = (ownP gs).length := by
    have := congrArg List.length hsl
    simpa using this
  have hpg := putGo_text (textL rows e) e (gs.map pieceG) 0 0
  generalize textL rows e = C at *
  generalize hps : osp (gs.map pieceG) 0 = ps at *
  have hr : (ps.map (rowRec C folds)).map (fun r => (r.1, r.2.1)) = ps := by rw [List.map_map]; exact List.map_id'' (fun _ => rfl) _
  have hk : (ps.map (rowRec C folds)).map (fun r => r.2.2) = keysG gs folds := by
    rw [List.map_map]
    have h1 : (ps.map fun p => IL ((slice C p.1 p.2).map (sm folds))) = keysG gs folds := by
      have := congrArg (List.map fun w : List Int => IL (w.map (sm folds))) hsl
      rw [List.map_map, List.map_map] at this
      exact this
    rw [← h1]
    apply List.map_congr_left
    intro p _
    show IL (keyT folds (slice C p.1 p.2)) = _
    rw [keyT_sm folds (lo_slice hlo _ _)]
  have hok := keysG_ok gs folds
  generalize hrecs : ps.map (rowRec C folds) = recs at hr hk ⊢
  have hrl : recs.length = (ownP gs).length := by rw [← hrecs, List.length_map, hlen]
  have ho := ord_eq recs (0, 0, .none) rv (by rw [hk]; exact hok)
  rw [hk] at ho
  have hkl : (keysG gs folds).length = recs.length := by rw [← hk, List.length_map]
  have holen : (ordL recs rv).length = recs.length := by rw [ho, List.length_map, ordK_len, hkl]
  have hol := ownP_len gs
  refine .inr ⟨recs, _, rfl, rfl, by rw [hk]; exact hok, by (first | lia | omega), pos_in hr hin, ?_, holen⟩
  rw [hpg recs (ordL recs rv) (Nat.le_refl _) hC (by rw [hr]) holen]
  have hs0 : slice C 0 0 = [] := by simp [slice]
  rw [hs0, List.nil_append]
  unfold turnedG
  rw [setGo_setL, set_repl gs _ (by rw [List.length_map, ordK_len, hkl, hrl])]
  congr 2
  rw [ho, List.map_map]
  apply List.map_congr_left
  intro i hi
  have hi' : i < recs.length := by rw [← hkl]; exact ordK_lt hi
  have hio : i < (ownP gs).length := by (first | lia | omega)
  have h2 : recs.map (fun o => slice C o.1 o.2.1) = (ownP gs).map (textG gs) := by
    rw [← hsl, ← hr, List.map_map]
    rfl
  have h3 := congrArg (fun l : List (List Int) => l[i]?) h2
  simp only [List.getElem?_map, List.getElem?_eq_getElem hi', List.getElem?_eq_getElem hio, Option.map_some, Option.some.injEq] at h3
  simp only [Function.comp_def, List.getD, List.getElem?_eq_getElem hi', List.getElem?_eq_getElem hio, Option.getD_some]
  exact h3
theorem agree_all (rows : List (List Int)) (e rv : Bool) (hn : rows.length ≤ 5) (hc : ∀ r ∈ rows, ∀ c ∈ r, okc c) (he : endOk rows e) (way n : Int) (hw : way = 0 ∨ way = 1 ∨ way = 2 ∨ way = 3 ∨ way = 4) (f g : Nat) (folds : Bool) :
    Agree (textL rows e) rv (recsT (textL rows e) way n f g folds) (dueT rows way n f g folds rv e) := by
  by_cases h1 : way = 1
  · subst h1
    exact agree_groups rows e rv hn hc he n f g folds
  · exact agree_rows rows e rv hn hc he way n (by (first | lia | omega)) f g folds
noncomputable def kp (nx : Bool) : List (List Int) → List (List Int) → List Bool
  | [], _ => []
  | r :: rs, k => if k.contains r then false :: kp nx rs k else true :: kp nx rs (if nx then [r] else k ++ [r])
theorem kpq1 (nx : Bool) (u : List (List Int)) : kp nx [] u = [] := rfl
theorem kpq2 (nx : Bool) (u : List (List Int)) (r : List Int) (rs : List (List Int)) : kp nx (r :: rs) u = if u.contains r = true then false :: kp nx rs u else true :: kp nx rs (if nx = true then [r] else u ++ [r]) := rfl
noncomputable def pick {α : Type} : List α → List Bool → List α
  | x :: xs, true :: bs => x :: pick xs bs
  | _ :: xs, false :: bs => pick xs bs
  | _, _ => []
theorem pickq1 {α : Type} (x_2 : α) (xs : List α) (bs : List Bool) : pick (x_2 :: xs) (true :: bs) = x_2 :: pick xs bs := rfl
theorem pickq2 {α : Type} (head : α) (xs : List α) (bs : List Bool) : pick (head :: xs) (false :: bs) = pick xs bs := rfl
theorem pickq3 {α : Type} (bs : List Bool) : pick ([] : List α) bs = [] := rfl
theorem pickq4 {α : Type} (xs : List α) : pick xs [] = [] := by cases xs <;> rfl
theorem kp_len (nx : Bool) : ∀ (rs k : List (List Int)), (kp nx rs k).length = rs.length
  | [], _ => rfl
  | r :: rs, k => by
    simp only [kpq1, kpq2]
    split <;> simp [kp_len nx rs]
theorem wo_pick (nx : Bool) : ∀ (rs found : List (List Int)), woGo nx rs found = found ++ pick rs (kp nx rs (if nx then found.drop (found.length - 1) else found))
  | [], found => by simp [woGoq1, woGoq2, pickq1, pickq2, pickq3, pickq4]
  | r :: rs, found => by
    simp only [woGoq1, woGoq2, kpq1, kpq2]
    by_cases h : (if nx then found.drop (found.length - 1) else found).contains r = true
    · rw [if_pos h, if_pos h, wo_pick nx rs found]; rfl
    · rw [if_neg h, if_neg h, wo_pick nx rs (found ++ [r])]
      have : (if nx then (found ++ [r]).drop ((found ++ [r]).length - 1) else found ++ [r]) = (if nx then [r] else (if nx then found.drop (found.length - 1) else found) ++ [r]) := by
        cases nx <;> simp
      rw [this]
      simp [pickq1, pickq2, pickq3, pickq4]
theorem wd_pick (nx : Bool) (tx : Nat → List Int) : ∀ (ps gone : List Nat) (known : List (List Int)), wdGo nx tx ps gone known = gone ++ pick ps ((kp nx (ps.map tx) known).map not)
  | [], gone, known => by simp [wdGoq1, wdGoq2, pickq1, pickq2, pickq3, pickq4]
  | p :: ps, gone, known => by
    simp only [wdGoq1, wdGoq2, List.map_cons, kpq1, kpq2]
    by_cases h : known.contains (tx p) = true
    · rw [if_pos h, if_pos h, wd_pick nx tx ps]
      simp [pickq1, pickq2, pickq3, pickq4]
    · rw [if_neg h, if_neg h, wd_pick nx tx ps]
      simp [pickq1, pickq2, pickq3, pickq4]
theorem pick_app {α : Type} : ∀ (xs ys : List α) (bs cs : List Bool), xs.length = bs.length → pick (xs ++ ys) (bs ++ cs) = pick xs bs ++ pick ys cs
  | [], ys, [], cs, _ => by simp [pickq1, pickq2, pickq3, pickq4]
  | [], ys, b :: bs, cs, h => by simp at h
  | x :: xs, ys, [], cs, h => by simp at h
  | x :: xs, ys, true :: bs, cs, h => by simp [pickq1, pickq2, pickq3, pickq4, pick_app xs ys bs cs (by simpa using h)]
  | x :: xs, ys, false :: bs, cs, h => by simp [pickq1, pickq2, pickq3, pickq4, pick_app xs ys bs cs (by simpa using h)]
theorem pick_rev {α : Type} : ∀ (xs : List α) (bs : List Bool), xs.length = bs.length → pick xs.reverse bs.reverse = (pick xs bs).reverse
  | [], [], _ => rfl
  | [], b :: bs, h => by simp at h
  | x :: xs, [], h => by simp at h
  | x :: xs, b :: bs, h => by
    have h' : xs.length = bs.length := by simpa using h
    rw [List.reverse_cons, List.reverse_cons, pick_app _ _ _ _ (by simpa using h'), pick_rev xs bs h']
    cases b <;> simp [pickq1, pickq2, pickq3, pickq4]
theorem pick_mem {α : Type} {y : α} : ∀ (xs : List α) (bs : List Bool), y ∈ pick xs bs → y ∈ xs
  | [], bs, h => by simp [pickq1, pickq2, pickq3, pickq4] at h
  | x :: xs, [], h => by simp [pickq1, pickq2, pickq3, pickq4] at h
  | x :: xs, true :: bs, h => by
    simp only [pickq1, pickq2, pickq3, pickq4, List.mem_cons] at h ⊢
    rcases h with h | h
    · exact .inl h
    · exact .inr (pick_mem xs bs h)
  | x :: xs, false :: bs, h => by
    simp only [pickq1, pickq2, pickq3, pickq4, List.mem_cons] at h ⊢
    exact .inr (pick_mem xs bs h)
theorem pick_two {α β : Type} : ∀ (xs : List α) (ys : List β) (bs : List Bool), xs.length = bs.length → ys.length = bs.length → (pick xs bs).length + (pick ys (bs.map not)).length = bs.length
  | [], [], [], _, _ => rfl
  | x :: xs, y :: ys, b :: bs, h1, h2 => by
    have := pick_two xs ys bs (by simpa using h1) (by simpa using h2)
    cases b <;> simp [pickq1, pickq2, pickq3, pickq4] <;> (first | lia | omega)
  | [], _, b :: bs, h, _ => by simp at h
  | _, [], b :: bs, _, h => by simp at h
  | x :: xs, _, [], h, _ => by simp at h
  | _, y :: ys, [], _, h => by simp at h
theorem pick_at : ∀ (bs : List Bool) (i k : Nat), k < bs.length → (pick (List.range' i bs.length) (bs.map not)).contains (i + k) = !(bs.getD k true)
  | [], i, k, h => by simp at h
  | b :: bs, i, k, h => by
    rw [List.length_cons, List.range'_succ]
    cases k with
    | zero =>
      cases b with
      | true =>
        simp only [List.map_cons, Bool.not_true, pickq1, pickq2, pickq3, pickq4, Nat.add_zero, List.getD_cons_zero]
        rw [← Bool.not_eq_true, List.contains_iff_mem]
        intro z
        have := List.mem_range'_1.mp (pick_mem _ _ z)
        (first | lia | omega)
      | false => simp [pickq1, pickq2, pickq3, pickq4]
    | succ k =>
      have ih := pick_at bs (i + 1) k (by simpa using h)
      rw [show i + 1 + k = i + (k + 1) by (first | lia | omega)] at ih
      cases b with
      | true => simpa [pickq1, pickq2, pickq3, pickq4] using ih
      | false =>
        simp only [List.map_cons, Bool.not_false, pickq1, pickq2, pickq3, pickq4, List.contains_cons, List.getD_cons_succ]
        rw [ih]
        have : ((i + (k + 1)) == i) = false := by rw [beq_eq_false_iff_ne]; (first | lia | omega)
        rw [this, Bool.false_or]
noncomputable def catL (e : Bool) : List (List Int) → List Bool → List Int
  | r :: rs, b :: bs => (if b then r ++ (if rs ≠ [] ∨ e = true then [10] else []) else []) ++ catL e rs bs
  | _, _ => []
theorem catLq1 (e : Bool) (r : List Int) (rs : List (List Int)) (b : Bool) (bs : List Bool) : catL e (r :: rs) (b :: bs) = (if b = true then r ++ if rs ≠ [] ∨ e = true then [10] else [] else []) ++ catL e rs bs := rfl
theorem catLq2 (e : Bool) (bs : List Bool) : catL e [] bs = [] := rfl
theorem catLq3 (e : Bool) (rs : List (List Int)) : catL e rs [] = [] := by cases rs <;> rfl
theorem out_cat (C : List Int) (e : Bool) (gone : List Nat) : ∀ (rs : List (List Int)) (bs : List Bool) (a i : Nat), rs.length = bs.length → C.drop a = textL rs e → (∀ k, k < bs.length → gone.contains (i + k) = !(bs.getD k true)) →
    outGo C gone (offs rs a) i = catL e rs bs
  | [], [], a, i, _, _, _ => rfl
  | [], b :: bs, a, i, h, _, _ => by simp at h
  | r :: rs, [], a, i, h, _, _ => by simp at h
  | r :: rs, b :: bs, a, i, h, hC, hg => by
    obtain ⟨s1, s2, s3⟩ := sep_of hC
    have ih := out_cat C e gone rs bs (a + r.length + 1) (i + 1) (by simpa using h) s3 fun k hk => by
      have := hg (k + 1) (by simpa using hk)
      rw [show i + (k + 1) = i + 1 + k by (first | lia | omega)] at this
      simpa using this
    have h0 := hg 0 (by simp)
    simp only [Nat.add_zero, List.getD_cons_zero] at h0
    simp only [offsq1, offsq2, outGoq1, outGoq2, catLq1, catLq2, catLq3, h0, ih]
    have hs : slice C a (a + r.length + 1) = r ++ (if rs ≠ [] ∨ e = true then [10] else []) := by
      rw [← slice_app C (show a ≤ a + r.length by (first | lia | omega)) (show a + r.length ≤ a + r.length + 1 by (first | lia | omega)), s1, s2]
    cases b with
    | true => simp only [Bool.not_true, Bool.false_eq_true, if_false, if_true, hs]
    | false => simp
theorem pick_nil {α : Type} : ∀ (xs : List α) (bs : List Bool), xs.length = bs.length → xs ≠ [] → pick xs bs = [] → bs.getLast? = some false
  | [], bs, _, h, _ => absurd rfl h
  | x :: xs, [], h, _, _ => by simp at h
  | x :: xs, true :: bs, _, _, h => by simp [pickq1, pickq2, pickq3, pickq4] at h
  | [x], [false], _, _, _ => rfl
  | [x], false :: b :: bs, h, _, _ => by simp at h
  | x :: y :: xs, [false], h, _, _ => by simp at h
  | x :: y :: xs, false :: b :: bs, h, _, hp => by
    rw [List.getLast?_cons_cons]
    exact pick_nil (y :: xs) (b :: bs) (by simpa using h) (by simp) hp
theorem cat_text (e : Bool) : ∀ (rs : List (List Int)) (bs : List Bool), rs.length = bs.length → catL e rs bs = textL (pick rs bs) (e || bs.getLast? == some false)
  | [], bs, _ => by simp [catLq1, catLq2, catLq3, pickq1, pickq2, pickq3, pickq4, textLq1, textLq2]
  | r :: rs, [], h => by simp at h
  | [r], [b], _ => by cases b <;> simp [catLq1, catLq2, catLq3, pickq1, pickq2, pickq3, pickq4, textLq1, textLq2]
  | [r], b :: b2 :: bs, h => by simp at h
  | r :: r2 :: rs, [b], h => by simp at h
  | r :: r2 :: rs, b :: b2 :: bs, h => by
    have hl : (r2 :: rs).length = (b2 :: bs).length := by simpa using h
    have ih := cat_text e (r2 :: rs) (b2 :: bs) hl
    rw [catLq1, ih, List.getLast?_cons_cons]
    have hn := pick_nil (r2 :: rs) (b2 :: bs) hl (by simp)
    have hp : pick (r :: r2 :: rs) (b :: b2 :: bs) = if b then r :: pick (r2 :: rs) (b2 :: bs) else pick (r2 :: rs) (b2 :: bs) := by cases b <;> rfl
    rw [hp]
    generalize pick (r2 :: rs) (b2 :: bs) = P at *
    generalize (b2 :: bs).getLast? = o at *
    cases b with
    | false => simp
    | true =>
      have hcond : P ≠ [] ∨ (e || o == some false) = true := by
        cases P with
        | nil => right; rw [hn rfl]; simp
        | cons x xs => left; simp
      simp only [if_true, textLq1, textLq2]
      rw [if_pos hcond, if_pos (.inl (by simp))]
theorem kp_last (nx : Bool) (x : List Int) : ∀ (rs k : List (List Int)), ∃ k', (kp nx (rs ++ [x]) k).getLast? = some (!k'.contains x) ∧
    (nx = false → (k'.contains x = true ↔ x ∈ k ∨ x ∈ rs)) ∧ (nx = true → (rs = [] → k' = k) ∧ (k.length ≤ 1 → rs ≠ [] → ∃ y, rs.getLast? = some y ∧ k' = [y]))
  | [], k => by
    refine ⟨k, ?_, fun _ => by simp, fun _ => ⟨fun _ => rfl, fun _ h => absurd rfl h⟩⟩
    simp only [List.nil_append, kpq1, kpq2]
    cases k.contains x <;> rfl
  | r :: rs, k => by
    have hne : ∀ k2, kp nx (rs ++ [x]) k2 ≠ [] := fun k2 h => by
      have := kp_len nx (rs ++ [x]) k2
      rw [h] at this; simp at this
    have hlast : ∀ b k2, (b :: kp nx (rs ++ [x]) k2).getLast? = (kp nx (rs ++ [x]) k2).getLast? := fun b k2 => by
      cases h : kp nx (rs ++ [x]) k2 with
      | nil => exact absurd h (hne k2)
      | cons c cs => rw [List.getLast?_cons_cons]
    simp only [List.cons_append, kpq1, kpq2]
    by_cases h : k.contains r = true
    · obtain ⟨k', e, h1, h2⟩ := kp_last nx x rs k
      refine ⟨k', by rw [if_pos h, hlast]; exact e, fun hn => ?_, fun hn => ⟨fun z => absurd z (by simp), fun hk _ => ?_⟩⟩
      · rw [h1 hn]
        have hr : r ∈ k := List.contains_iff_mem.mp h
        constructor
        · rintro (z | z)
          · exact .inl z
          · exact .inr (List.mem_cons_of_mem _ z)
        · rintro (z | z)
          · exact .inl z
          · rcases List.mem_cons.mp z with rfl | z
            · exact .inl hr
            · exact .inr z
      · have hr : r ∈ k := List.contains_iff_mem.mp h
        have hk1 : k = [r] := by
          match k, hk, hr with
          | [], _, hr => simp at hr
          | [y], _, hr => rw [List.mem_singleton.mp hr]
          | y :: z :: w, hk, _ => simp at hk
        cases rs with
        | nil => exact ⟨r, rfl, by rw [(h2 hn).1 rfl, hk1]⟩
        | cons y ys =>
          obtain ⟨z, z1, z2⟩ := (h2 hn).2 hk (by simp)
          exact ⟨z, by rw [List.getLast?_cons_cons]; exact z1, z2⟩
    · obtain ⟨k', e, h1, h2⟩ := kp_last nx x rs (if nx then [r] else k ++ [r])
      refine ⟨k', by rw [if_neg h, hlast]; exact e, fun hn => ?_, fun hn => ⟨fun z => absurd z (by simp), fun hk _ => ?_⟩⟩
      · rw [h1 hn]
        subst hn
        simp [or_assoc]
      · subst hn
        simp only [if_true] at h2
        cases rs with
        | nil => exact ⟨r, rfl, (h2 trivial).1 rfl⟩
        | cons y ys =>
          obtain ⟨z, z1, z2⟩ := (h2 trivial).2 (by simp) (by simp)
          exact ⟨z, by rw [List.getLast?_cons_cons]; exact z1, z2⟩
noncomputable def goneB (rows : List (List Int)) (nx : Bool) : Bool := (if nx then rows.dropLast.drop (rows.dropLast.length - 1) else rows.dropLast).contains (rows.getLastD [])
theorem last_flag (rows : List (List Int)) (hne : rows ≠ []) (nx : Bool) : ((kp nx rows []).getLast? == some false) = goneB rows nx := by
  rcases List.eq_nil_or_concat rows with rfl | ⟨rs, x, rfl⟩
  · exact absurd rfl hne
  · rw [List.concat_eq_append]
    obtain ⟨k', e, h1, h2⟩ := kp_last nx x rs []
    rw [e]
    have hl : (rs ++ [x]).getLastD [] = x := by simp [List.getLastD_eq_getLast?]
    unfold goneB
    rw [hl, List.dropLast_concat]
    have e1 : (some (!k'.contains x) == some false) = k'.contains x := by cases k'.contains x <;> rfl
    rw [e1]
    cases nx with
    | false =>
      simp only [Bool.false_eq_true, if_false]
      rw [Bool.eq_iff_iff, h1 rfl, List.contains_iff_mem]
      simp
    | true =>
      simp only [if_true]
      rcases List.eq_nil_or_concat rs with rfl | ⟨ys, y, rfl⟩
      · rw [(h2 rfl).1 rfl]; rfl
      · rw [List.concat_eq_append] at *
        obtain ⟨z, z1, z2⟩ := (h2 rfl).2 (by simp) (by simp)
        have : z = y := by simpa using z1.symm
        rw [z2, this]
        simp
theorem head_flag (rows : List (List Int)) (hne : rows ≠ []) (nx : Bool) : ((kp nx rows.reverse []).reverse.getLast? == some false) = false := by
  have : rows.reverse ≠ [] := by simpa using hne
  cases h : rows.reverse with
  | nil => exact absurd h this
  | cons r rs => simp [kpq1, kpq2]
noncomputable def flags (rows : List (List Int)) (ls nx : Bool) : List Bool := if ls then (kp nx rows.reverse []).reverse else kp nx rows []
theorem flags_len (rows : List (List Int)) (ls nx : Bool) : (flags rows ls nx).length = rows.length := by
  unfold flags
  cases ls <;> simp [kp_len]
theorem without_pick (rows : List (List Int)) (ls nx : Bool) : withoutL rows ls nx = pick rows (flags rows ls nx) := by
  have h0 : ∀ rs : List (List Int), woGo nx rs [] = pick rs (kp nx rs []) := fun rs => by
    rw [wo_pick]; cases nx <;> simp
  unfold withoutL flags
  cases ls with
  | false => simp only [Bool.false_eq_true, if_false]; exact h0 rows
  | true =>
    simp only [if_true]
    rw [h0, ← pick_rev _ _ (by rw [kp_len]), List.reverse_reverse]
theorem map_tx (rows : List (List Int)) : (List.range rows.length).map (fun i => rows.getD i []) = rows := (rec_ext rows []).symm
theorem gone_facts (rows : List (List Int)) (ls nx : Bool) : (goneT rows ls nx).length + (withoutL rows ls nx).length = rows.length ∧
    ∀ k, k < rows.length → (goneT rows ls nx).contains k = !((flags rows ls nx).getD k true) := by
  have hfl := flags_len rows ls nx
  have hg : goneT rows ls nx = if ls then (pick (List.range rows.length) ((flags rows ls nx).map not)).reverse else pick (List.range rows.length) ((flags rows ls nx).map not) := by
    unfold goneT flags
    cases ls with
    | false =>
      simp only [Bool.false_eq_true, if_false]
      rw [wd_pick, map_tx, List.nil_append]
    | true =>
      simp only [if_true]
      rw [wd_pick, List.map_reverse, map_tx, List.nil_append, ← pick_rev _ _ (by simp [kp_len]), List.map_reverse, List.reverse_reverse]
  have hlen : (goneT rows ls nx).length = (pick (List.range rows.length) ((flags rows ls nx).map not)).length := by
    rw [hg]; cases ls <;> simp
  have hc : ∀ k, (goneT rows ls nx).contains k = (pick (List.range rows.length) ((flags rows ls nx).map not)).contains k := fun k => by
    rw [hg]
    cases ls with
    | false => rfl
    | true =>
      simp only [if_true]
      rw [Bool.eq_iff_iff, List.contains_iff_mem, List.contains_iff_mem, List.mem_reverse]
  refine ⟨?_, fun k hk => ?_⟩
  · rw [hlen, without_pick]
    have := pick_two rows (List.range rows.length) (flags rows ls nx) hfl.symm (by simp [hfl])
    (first | lia | omega)
  · rw [hc]
    have := pick_at (flags rows ls nx) 0 k (by (first | lia | omega))
    rw [Nat.zero_add, hfl, ← List.range_eq_range'] at this
    exact this
theorem out_text (rows : List (List Int)) (hne : rows ≠ []) (e ls nx : Bool) : outGo (textL rows e) (goneT rows ls nx) (offs rows 0) 0 = textL (withoutL rows ls nx) (e || (!ls && goneB rows nx)) := by
  have hfl := flags_len rows ls nx
  rw [out_cat (textL rows e) e _ rows (flags rows ls nx) 0 0 hfl.symm rfl fun k hk => by
    rw [Nat.zero_add]; exact (gone_facts rows ls nx).2 k (by (first | lia | omega))]
  rw [cat_text e rows _ hfl.symm, without_pick]
  congr 2
  unfold flags
  cases ls with
  | false => simp only [Bool.false_eq_true, if_false, Bool.not_false, Bool.true_and]; exact last_flag rows hne nx
  | true => simp only [if_true, Bool.not_true, Bool.false_and]; exact head_flag rows hne nx
theorem item_last (rs : List (List Int)) (y : List Int) : itemOf (.list ((rs ++ [y]).map IL)) (-1) = some (IL y) := by
  have h0 : ((rs.length : Int) + 1 + -1) = (rs.length : Int) := by (first | lia | omega)
  have h1 : (-1 : Int) + ((rs.length : Int) + 1) = (rs.length : Int) := by (first | lia | omega)
  simp [itemOf, place, h0, h1]
theorem item_lastD (rows : List (List Int)) (hne : rows ≠ []) : itemOf (LL rows) (-1) = some (IL (rows.getLastD [])) := by
  rcases List.eq_nil_or_concat rows with rfl | ⟨rs, y, rfl⟩
  · exact absurd rfl hne
  · rw [List.concat_eq_append]
    have hl : (rs ++ [y]).getLastD [] = y := by simp [List.getLastD_eq_getLast?]
    rw [hl]
    exact item_last rs y
theorem cut_init (rows : List (List Int)) : cut (rows.map IL) none (some (-1)) = rows.dropLast.map IL := by
  simp only [cut, Option.elim_none, Option.elim_some, clip_m1, List.drop_zero, Nat.sub_zero, List.length_map]
  rw [← List.map_take, ← List.dropLast_eq_take]
theorem cut_two (rows : List (List Int)) : cut (rows.map IL) (some (-2)) (some (-1)) = (rows.dropLast.drop (rows.dropLast.length - 1)).map IL := by
  simp only [cut, Option.elim_some, clip_m1, clip_m2, List.length_map]
  rw [← List.map_drop, ← List.map_take]
  congr 1
  rw [List.length_dropLast, List.dropLast_eq_take, List.drop_take, show rows.length - 1 - 1 = rows.length - 2 by (first | lia | omega)]
theorem slice_le (l : List Int) (a b : Nat) : (slice l a b).length ≤ l.length := by
  simp only [slice, List.length_take, List.length_drop]; (first | lia | omega)
theorem putGo_le (l : List Int) : ∀ (rs os : List (Nat × Nat × D)) (a : Nat), (putGo l rs os a).length ≤ (2 * rs.length + 1) * l.length
  | [], os, a => by simp [putGoq1, putGoq2, putGoq3]
  | r :: rs, [], a => by
    simp only [putGoq1, putGoq2, putGoq3, List.length_drop, List.length_cons]
    have : 1 * l.length ≤ (2 * (rs.length + 1) + 1) * l.length := Nat.mul_le_mul_right _ (by (first | lia | omega))
    (first | lia | omega)
  | r :: rs, o :: os, a => by
    have h := putGo_le l rs os r.2.1
    have h1 := slice_le l a r.1
    have h2 := slice_le l o.1 o.2.1
    simp only [putGoq1, putGoq2, putGoq3, List.length_append, List.length_cons]
    have : (2 * (rs.length + 1) + 1) * l.length = (2 * rs.length + 1) * l.length + 2 * l.length := by
      rw [show 2 * (rs.length + 1) + 1 = (2 * rs.length + 1) + 2 by (first | lia | omega), Nat.add_mul]
    (first | lia | omega)
theorem offs_short : ∀ (rows : List (List Int)) (a : Nat), (∀ r ∈ rows, r.length ≤ 5) → ∀ p ∈ offs rows a, p.2 - p.1 ≤ 10
  | [], a, _, p, hp => by simp [offsq1, offsq2] at hp
  | r :: rs, a, h, p, hp => by
    simp only [offsq1, offsq2, List.mem_cons] at hp
    rcases hp with rfl | hp
    · have := h r (by simp); simp only; (first | lia | omega)
    · exact offs_short rs _ (fun x hx => h x (List.mem_cons_of_mem _ hx)) p hp
theorem c_put (k : Nat) (l : List Int) (rs : List (Nat × Nat × D)) (rv : Bool) (dk : List Int) (hok : keysOk (rs.map fun p => p.2.2) = true) (h5 : rs.length ≤ 5) (hol : (ordL rs rv).length = rs.length) (hr : ∀ p ∈ rs, p.1 ≤ l.length ∧ p.2.1 ≤ l.length) (hl : l.length ≤ 1000) :
    callF tblE (k + 3) 10 [.fro (IL l), .fro (.list (rs.map recD)), .fro (.bool rv)] dk = some (IL (putGo l rs (ordL rs rv) 0), dk) := by
  rw [call_eq (fn := f10) rfl rfl]
  have hb := putGo_le l rs (ordL rs rv) 0
  have : (2 * rs.length + 1) * l.length ≤ 11 * 1000 := Nat.mul_le_mul (by (first | lia | omega)) hl
  exact b_put l rs (ordL rs rv) rv dk (c_ordered k rs rv dk hok h5) hol (by (first | lia | omega)) (by unfold lim; (first | lia | omega))
noncomputable def t30_1 : Sm := (Sm.asgT [2, 3, 4] (Exs.cons (Ex.call 18 (Exs.cons (Ex.var 1) (Exs.cons (Ex.int 5) Exs.nil))) (Exs.cons (Ex.cmp Cp.eq (Ex.call 18 (Exs.cons (Ex.var 1) (Exs.cons (Ex.int 2) Exs.nil))) (Ex.int 1)) (Exs.cons (Ex.cmp Cp.eq (Ex.call 18 (Exs.cons (Ex.var 1) (Exs.cons (Ex.int 2) Exs.nil))) (Ex.int 1)) Exs.nil))))
noncomputable def t30_2 : Sm := (Sm.asgT [5, 6] (Exs.cons (Ex.idx (Ex.lst (Exs.cons (Ex.int 1) (Exs.cons (Ex.int 2) (Exs.cons (Ex.neg (Ex.int 1)) Exs.nil)))) (Ex.call 18 (Exs.cons (Ex.var 1) (Exs.cons (Ex.int 3) Exs.nil)))) (Exs.cons (Ex.call 18 (Exs.cons (Ex.var 1) (Exs.cons (Ex.int 3) Exs.nil))) Exs.nil)))
noncomputable def t30_3 : Sm := (Sm.asg 7 (Ex.tup (Exs.cons (Ex.var 6) (Exs.cons (Ex.add (Ex.var 6) (Ex.call 18 (Exs.cons (Ex.var 1) (Exs.cons (Ex.int 3) Exs.nil)))) Exs.nil))))
noncomputable def t30_4 : Sm := (Sm.asg 8 (Ex.comp [1] 1 (It.range (Ex.add (Ex.int 1) (Ex.call 18 (Exs.cons (Ex.var 1) (Exs.cons (Ex.int 5) Exs.nil))))) Exs.nil f30_e1))
noncomputable def t30_5 : Sm := (Sm.asg 9 (Ex.or (Ex.cmp Cp.gt (Ex.call 18 (Exs.cons (Ex.var 1) (Exs.cons (Ex.int 3) Exs.nil))) (Ex.int 0)) (Ex.cmp Cp.eq (Ex.idxV 8 (Ex.neg (Ex.int 1))) (Ex.lst Exs.nil))))
noncomputable def t30_6 : Sm := (Sm.asg 10 (Ex.call 25 (Exs.cons (Ex.var 8) (Exs.cons (Ex.var 9) Exs.nil))))
noncomputable def t30_7 : Sm := (Sm.asg 11 (Ex.call 27 (Exs.cons (Ex.var 8) (Exs.cons (Ex.var 2) (Exs.cons (Ex.var 5) (Exs.cons (Ex.var 7) (Exs.cons (Ex.var 4) (Exs.cons (Ex.var 3) (Exs.cons (Ex.var 9) Exs.nil)))))))))
noncomputable def t30_8 : Sm := (Sm.asg 12 (Ex.call 28 (Exs.cons (Ex.var 10) (Exs.cons (Ex.var 2) (Exs.cons (Ex.var 5) (Exs.cons (Ex.var 7) (Exs.cons (Ex.var 4) Exs.nil)))))))
noncomputable def t30_9 : Sm := (Sm.ifS (Ex.cmp Cp.ne (Ex.isNone false (Ex.var 12)) (Ex.isNone false (Ex.var 11))) (Sms.cons (Sm.ret (Ex.bool false)) Sms.nil) Sms.nil)
noncomputable def t30_10 : Sm := (Sm.ifS (Ex.and (Ex.isNone true (Ex.var 11)) (Ex.cmp Cp.ne (Ex.call 10 (Exs.cons (Ex.var 10) (Exs.cons (Ex.var 12) (Exs.cons (Ex.var 3) Exs.nil)))) (Ex.var 11))) (Sms.cons (Sm.ret (Ex.bool false)) Sms.nil) Sms.nil)
noncomputable def t30_11 : Sm := (Sm.ifS (Ex.cmp Cp.ne (Ex.call 16 (Exs.cons (Ex.var 10) Exs.nil)) (Ex.call 25 (Exs.cons (Ex.rev (Ex.var 8)) (Exs.cons (Ex.var 9) Exs.nil)))) (Sms.cons (Sm.ret (Ex.bool false)) Sms.nil) Sms.nil)
noncomputable def t30_12 : Sm := (Sm.asgT [13, 14] (Exs.cons (Ex.cmp Cp.eq (Ex.call 18 (Exs.cons (Ex.var 1) (Exs.cons (Ex.int 2) Exs.nil))) (Ex.int 1)) (Exs.cons (Ex.cmp Cp.eq (Ex.call 18 (Exs.cons (Ex.var 1) (Exs.cons (Ex.int 2) Exs.nil))) (Ex.int 1)) Exs.nil)))
noncomputable def t30_13 : Sm := (Sm.asg 15 (Ex.call 29 (Exs.cons (Ex.var 8) (Exs.cons (Ex.var 13) (Exs.cons (Ex.var 14) Exs.nil)))))
noncomputable def t30_14 : Sm := (Sm.unp [16, 17] (Ex.call 17 (Exs.cons (Ex.var 10) (Exs.cons (Ex.var 13) (Exs.cons (Ex.var 14) Exs.nil)))))
noncomputable def t30_15 : Sm := (Sm.asg 18 (Ex.and (Ex.not (Ex.var 13)) (Ex.inn false (Ex.idxV 8 (Ex.neg (Ex.int 1))) (Ex.ite (Ex.var 14) (Ex.sliceV 8 (Ox.some (Ex.neg (Ex.int 2))) (Ox.some (Ex.neg (Ex.int 1)))) (Ex.sliceV 8 Ox.none (Ox.some (Ex.neg (Ex.int 1))))))))
noncomputable def t30_16 : Sm := (Sm.ret (Ex.and (Ex.cmp Cp.eq (Ex.var 17) (Ex.sub (Ex.len (Ex.var 8)) (Ex.len (Ex.var 15)))) (Ex.cmp Cp.eq (Ex.var 16) (Ex.call 25 (Exs.cons (Ex.var 15) (Exs.cons (Ex.or (Ex.var 9) (Ex.var 18)) Exs.nil))))))
theorem lawTl_eq : lawTl = .cons t30_1 (.cons t30_2 (.cons t30_3 (.cons t30_4 (.cons t30_5 (.cons t30_6 (.cons t30_7 (.cons t30_8 (.cons t30_9 (.cons t30_10 (.cons t30_11 (.cons t30_12 (.cons t30_13 (.cons t30_14 (.cons t30_15 (.cons t30_16 (.nil)))))))))))))))) := rfl
section
variable {cf : CF} (h18 : ∀ (n : Int) (dk : List Int), n ≠ 0 → cf 18 [.deck, .fro (.int n)] dk = some (.int (drawV dk n), drawR dk)) (sc : D) (dk : List Int)
include h18 in
theorem st1 : ∃ w rv fo dk', (w = 0 ∨ w = 1 ∨ w = 2 ∨ w = 3 ∨ w = 4) ∧ ex cf t30_1 { v := [(.fro sc), .deck, .unset, .unset, .unset, .unset, .unset, .unset, .unset, .unset, .unset, .unset, .unset, .unset, .unset, .unset, .unset, .unset, .unset], dk := dk } = some (.next, { v := [(.fro sc), .deck, .fro (.int w), .fro (.bool rv), .fro (.bool fo), .unset, .unset, .unset, .unset, .unset, .unset, .unset, .unset, .unset, .unset, .unset, .unset, .unset, .unset], dk := dk' }) := by
  have d1 := draw_lt 5 (by decide) dk
  have e1 := h18 5 dk (by decide)
  have e2 := h18 2 (drawR dk) (by decide)
  have e3 := h18 2 (drawR (drawR dk)) (by decide)
  generalize drawV dk 5 = w at d1 e1
  generalize drawV (drawR dk) 2 = x at e2
  generalize drawV (drawR (drawR dk)) 2 = y at e3
  refine ⟨w, x == 1, y == 1, drawR (drawR (drawR dk)), by (first | lia | omega), ?_⟩
  delta t30_1; walk_at "mini"
include h18 in
theorem st2 (w : Int) (rv fo : Bool) : ∃ n f dk', (n = 1 ∨ n = 2 ∨ n = -1) ∧ ex cf t30_2 { v := [(.fro sc), .deck, .fro (.int w), .fro (.bool rv), .fro (.bool fo), .unset, .unset, .unset, .unset, .unset, .unset, .unset, .unset, .unset, .unset, .unset, .unset, .unset, .unset], dk := dk } = some (.next, { v := [(.fro sc), .deck, .fro (.int w), .fro (.bool rv), .fro (.bool fo), .fro (.int n), .fro (nD f), .unset, .unset, .unset, .unset, .unset, .unset, .unset, .unset, .unset, .unset, .unset, .unset], dk := dk' }) := by
  have d1 := draw_lt 3 (by decide) dk
  have d2 := draw_lt 3 (by decide) (drawR dk)
  have e1 := h18 3 dk (by decide)
  have e2 := h18 3 (drawR dk) (by decide)
  generalize drawV dk 3 = x at d1 e1
  generalize drawV (drawR dk) 3 = y at d2 e2
  obtain ⟨f, rfl⟩ := Int.eq_ofNat_of_zero_le d2.1
  have l3 : 3 ≤ lim := by decide
  have hx : x = 0 ∨ x = 1 ∨ x = 2 := by (first | lia | omega)
  rcases hx with rfl | rfl | rfl
  · refine ⟨1, f, drawR (drawR dk), .inl rfl, ?_⟩
    have i0 : itemOf (.list [.int 1, .int 2, .int (-1)]) 0 = some (.int 1) := rfl
    delta t30_2; walk_at "mini"
  · refine ⟨2, f, drawR (drawR dk), .inr (.inl rfl), ?_⟩
    have i0 : itemOf (.list [.int 1, .int 2, .int (-1)]) 1 = some (.int 2) := rfl
    delta t30_2; walk_at "mini"
  · refine ⟨-1, f, drawR (drawR dk), .inr (.inr rfl), ?_⟩
    have i0 : itemOf (.list [.int 1, .int 2, .int (-1)]) 2 = some (.int (-1)) := rfl
    delta t30_2; walk_at "mini"
include h18 in
theorem st3 (w n : Int) (f : Nat) (rv fo : Bool) : ∃ g dk', ex cf t30_3 { v := [(.fro sc), .deck, .fro (.int w), .fro (.bool rv), .fro (.bool fo), .fro (.int n), .fro (nD f), .unset, .unset, .unset, .unset, .unset, .unset, .unset, .unset, .unset, .unset, .unset, .unset], dk := dk } = some (.next, { v := [(.fro sc), .deck, .fro (.int w), .fro (.bool rv), .fro (.bool fo), .fro (.int n), .fro (nD f), .fro (.tup [nD f, nD g]), .unset, .unset, .unset, .unset, .unset, .unset, .unset, .unset, .unset, .unset, .unset], dk := dk' }) := by
  have d1 := draw_lt 3 (by decide) dk
  have e1 := h18 3 dk (by decide)
  generalize drawV dk 3 = x at d1 e1
  obtain ⟨m, rfl⟩ := Int.eq_ofNat_of_zero_le d1.1
  have l2 : 2 ≤ lim := by decide
  refine ⟨f + m, drawR dk, ?_⟩
  delta t30_3; walk_at "mini"
theorem rows_comp (h19 : ∀ (dk : List Int), ∃ (row : List Int) (dk' : List Int), cf 19 [.deck] dk = some (IL row, dk') ∧ row.length ≤ 5 ∧ ∀ c ∈ row, okc c) : ∀ (items : List D) (dk : List Int) (s : Slot), ∃ (rows : List (List Int)) (dk' : List Int) (s' : Slot), compL (compOne 19 1 (evC cf .nil) (ev cf f30_e1)) items { v := [(.unset), .deck, .unset, .unset, .unset, .unset, .unset, .unset, .unset, .unset, .unset, .unset, .unset, .unset, .unset, .unset, .unset, .unset, .unset, s], dk := dk } = some (rows.map IL, { v := [(.unset), .deck, .unset, .unset, .unset, .unset, .unset, .unset, .unset, .unset, .unset, .unset, .unset, .unset, .unset, .unset, .unset, .unset, .unset, s'], dk := dk' }) ∧ rows.length = items.length ∧ ∀ r ∈ rows, r.length ≤ 5 ∧ ∀ c ∈ r, okc c
  | [], dk, s => ⟨[], dk, s, rfl, rfl, by simp⟩
  | d :: ds, dk, s => by
    obtain ⟨row, dk1, e1, r1, r2⟩ := h19 dk
    obtain ⟨rows, dk', s', e2, r3, r4⟩ := rows_comp h19 ds dk1 (.fro d)
    refine ⟨row :: rows, dk', s', ?_, by simp [r3], fun r hr => ?_⟩
    · have hx : compOne 19 1 (evC cf .nil) (ev cf f30_e1) d { v := [(.unset), .deck, .unset, .unset, .unset, .unset, .unset, .unset, .unset, .unset, .unset, .unset, .unset, .unset, .unset, .unset, .unset, .unset, .unset, s], dk := dk } = some (some (IL row), { v := [(.unset), .deck, .unset, .unset, .unset, .unset, .unset, .unset, .unset, .unset, .unset, .unset, .unset, .unset, .unset, .unset, .unset, .unset, .unset, .fro d], dk := dk1 }) := by
        delta f30_e1; walk_at "mini"
      simp only [compLq1, compLq2, hx, e2, Option.bind_eq_bind, Option.bind_some, List.map_cons]
    · rcases List.mem_cons.mp hr with rfl | hr
      · exact ⟨r1, r2⟩
      · exact r4 r hr
include h18 in
theorem st4 (h19 : ∀ (dk : List Int), ∃ (row : List Int) (dk' : List Int), cf 19 [.deck] dk = some (IL row, dk') ∧ row.length ≤ 5 ∧ ∀ c ∈ row, okc c) (w n : Int) (f g : Nat) (rv fo : Bool) : ∃ rows dk', rows ≠ [] ∧ rows.length ≤ 5 ∧ (∀ r ∈ rows, r.length ≤ 5 ∧ ∀ c ∈ r, okc c) ∧ ex cf t30_4 { v := [(.fro sc), .deck, .fro (.int w), .fro (.bool rv), .fro (.bool fo), .fro (.int n), .fro (nD f), .fro (.tup [nD f, nD g]), .unset, .unset, .unset, .unset, .unset, .unset, .unset, .unset, .unset, .unset, .unset], dk := dk } = some (.next, { v := [(.fro sc), .deck, .fro (.int w), .fro (.bool rv), .fro (.bool fo), .fro (.int n), .fro (nD f), .fro (.tup [nD f, nD g]), .own (rows.map IL), .unset, .unset, .unset, .unset, .unset, .unset, .unset, .unset, .unset, .unset], dk := dk' }) := by
  have d1 := draw_lt 5 (by decide) dk
  have e1 := h18 5 dk (by decide)
  generalize drawV dk 5 = x at d1 e1
  obtain ⟨m, rfl⟩ := Int.eq_ofNat_of_zero_le d1.1
  obtain ⟨rows, dk', s', e2, r1, r2⟩ := rows_comp h19 ((List.range (1 + m)).map fun i => .int (i : Nat)) (drawR dk) .unset
  have hr := range_d (n := 1 + m) (by (first | lia | omega))
  simp only [List.length_map, List.length_range] at r1
  refine ⟨rows, dk', ?_, by (first | lia | omega), r2, ?_⟩
  · rintro rfl
    simp at r1; (first | lia | omega)
  · simp only [Int.natCast_add, Int.cast_ofNat_Int] at hr
    delta t30_4; walk_at "mini"
include h18 in
theorem st5 (w n : Int) (f g : Nat) (rv fo : Bool) (rows : List (List Int)) (hne : rows ≠ []) : ∃ e dk', endOk rows e ∧ ex cf t30_5 { v := [(.fro sc), .deck, .fro (.int w), .fro (.bool rv), .fro (.bool fo), .fro (.int n), .fro (nD f), .fro (.tup [nD f, nD g]), .own (rows.map IL), .unset, .unset, .unset, .unset, .unset, .unset, .unset, .unset, .unset, .unset], dk := dk } = some (.next, { v := [(.fro sc), .deck, .fro (.int w), .fro (.bool rv), .fro (.bool fo), .fro (.int n), .fro (nD f), .fro (.tup [nD f, nD g]), .own (rows.map IL), .fro (.bool e), .unset, .unset, .unset, .unset, .unset, .unset, .unset, .unset, .unset], dk := dk' }) := by
  have d1 := draw_lt 3 (by decide) dk
  have e1 := h18 3 dk (by decide)
  generalize drawV dk 3 = x at d1 e1
  have l0 : 0 ≤ lim := by decide
  by_cases hx : 0 < x
  · refine ⟨true, drawR dk, .inl rfl, ?_⟩
    delta t30_5; walk_at "mini"
  · rcases List.eq_nil_or_concat rows with rfl | ⟨rs, y, rfl⟩
    · exact absurd rfl hne
    · rw [List.concat_eq_append]
      have il := item_last rs y
      have hy : D.eqv (IL y) (.list []) = y.isEmpty := by cases y <;> rfl
      refine ⟨y.isEmpty, drawR dk, ?_, ?_⟩
      · cases y with
        | nil => exact .inl rfl
        | cons c cs => exact .inr (by simp)
      · generalize (rs ++ [y]).map IL = L at *
        simp only [IL] at il hy
        delta t30_5; walk_at "mini"
theorem st6 (w n : Int) (f g : Nat) (rv fo e : Bool) (rows : List (List Int)) (C : List Int) (h25 : cf 25 [.fro (LL rows), .fro (.bool e)] dk = some (IL C, dk)) : ex cf t30_6 { v := [(.fro sc), .deck, .fro (.int w), .fro (.bool rv), .fro (.bool fo), .fro (.int n), .fro (nD f), .fro (.tup [nD f, nD g]), .own (rows.map IL), .fro (.bool e), .unset, .unset, .unset, .unset, .unset, .unset, .unset, .unset, .unset], dk := dk } = some (.next, { v := [(.fro sc), .deck, .fro (.int w), .fro (.bool rv), .fro (.bool fo), .fro (.int n), .fro (nD f), .fro (.tup [nD f, nD g]), .fro (LL rows), .fro (.bool e), .fro (IL C), .unset, .unset, .unset, .unset, .unset, .unset, .unset, .unset], dk := dk }) := by
  simp only [LL] at h25 ⊢
  delta t30_6; walk_at "mini"
theorem st7 (w n : Int) (f g : Nat) (rv fo e : Bool) (rows : List (List Int)) (C : List Int) (due : D) (h27 : cf 27 [.fro (LL rows), .fro (.int w), .fro (.int n), .fro (.tup [nD f, nD g]), .fro (.bool fo), .fro (.bool rv), .fro (.bool e)] dk = some (due, dk)) : ex cf t30_7 { v := [(.fro sc), .deck, .fro (.int w), .fro (.bool rv), .fro (.bool fo), .fro (.int n), .fro (nD f), .fro (.tup [nD f, nD g]), .fro (LL rows), .fro (.bool e), .fro (IL C), .unset, .unset, .unset, .unset, .unset, .unset, .unset, .unset], dk := dk } = some (.next, { v := [(.fro sc), .deck, .fro (.int w), .fro (.bool rv), .fro (.bool fo), .fro (.int n), .fro (nD f), .fro (.tup [nD f, nD g]), .fro (LL rows), .fro (.bool e), .fro (IL C), .fro due, .unset, .unset, .unset, .unset, .unset, .unset, .unset], dk := dk }) := by
  generalize LL rows = L at *
  generalize IL C = M at *
  generalize D.tup [nD f, nD g] = T at *
  delta t30_7; walk_at "mini"
theorem st8 (w n : Int) (f g : Nat) (rv fo e : Bool) (rows : List (List Int)) (C : List Int) (due rec : D) (h28 : cf 28 [.fro (IL C), .fro (.int w), .fro (.int n), .fro (.tup [nD f, nD g]), .fro (.bool fo)] dk = some (rec, dk)) : ex cf t30_8 { v := [(.fro sc), .deck, .fro (.int w), .fro (.bool rv), .fro (.bool fo), .fro (.int n), .fro (nD f), .fro (.tup [nD f, nD g]), .fro (LL rows), .fro (.bool e), .fro (IL C), .fro due, .unset, .unset, .unset, .unset, .unset, .unset, .unset], dk := dk } = some (.next, { v := [(.fro sc), .deck, .fro (.int w), .fro (.bool rv), .fro (.bool fo), .fro (.int n), .fro (nD f), .fro (.tup [nD f, nD g]), .fro (LL rows), .fro (.bool e), .fro (IL C), .fro due, .fro rec, .unset, .unset, .unset, .unset, .unset, .unset], dk := dk }) := by
  generalize LL rows = L at *
  generalize IL C = M at *
  generalize D.tup [nD f, nD g] = T at *
  delta t30_8; walk_at "mini"
theorem st9 (w n : Int) (f g : Nat) (rv fo e : Bool) (rows : List (List Int)) (C : List Int) (due rec : D) (h : D.eqv rec .none = D.eqv due .none) : ex cf t30_9 { v := [(.fro sc), .deck, .fro (.int w), .fro (.bool rv), .fro (.bool fo), .fro (.int n), .fro (nD f), .fro (.tup [nD f, nD g]), .fro (LL rows), .fro (.bool e), .fro (IL C), .fro due, .fro rec, .unset, .unset, .unset, .unset, .unset, .unset], dk := dk } = some (.next, { v := [(.fro sc), .deck, .fro (.int w), .fro (.bool rv), .fro (.bool fo), .fro (.int n), .fro (nD f), .fro (.tup [nD f, nD g]), .fro (LL rows), .fro (.bool e), .fro (IL C), .fro due, .fro rec, .unset, .unset, .unset, .unset, .unset, .unset], dk := dk }) := by
  generalize LL rows = L at *
  generalize IL C = M at *
  generalize D.tup [nD f, nD g] = T at *
  have hb : (!(D.eqv rec .none == D.eqv due .none)) = false := by rw [h]; cases D.eqv due .none <;> rfl
  exact X_if_f (T_F rfl (F_of (V_cmp (F_of (V_isNone (F_fro rfl)) rfl) (F_of (V_isNone (F_fro rfl)) rfl) ne_bool) rfl)) hb XS_nil
theorem st10a (w n : Int) (f g : Nat) (rv fo e : Bool) (rows : List (List Int)) (C : List Int) (due rec : D) (h : D.eqv due .none = true) : ex cf t30_10 { v := [(.fro sc), .deck, .fro (.int w), .fro (.bool rv), .fro (.bool fo), .fro (.int n), .fro (nD f), .fro (.tup [nD f, nD g]), .fro (LL rows), .fro (.bool e), .fro (IL C), .fro due, .fro rec, .unset, .unset, .unset, .unset, .unset, .unset], dk := dk } = some (.next, { v := [(.fro sc), .deck, .fro (.int w), .fro (.bool rv), .fro (.bool fo), .fro (.int n), .fro (nD f), .fro (.tup [nD f, nD g]), .fro (LL rows), .fro (.bool e), .fro (IL C), .fro due, .fro rec, .unset, .unset, .unset, .unset, .unset, .unset], dk := dk }) := by
  generalize LL rows = L at *
  generalize IL C = M at *
  generalize D.tup [nD f, nD g] = T at *
  delta t30_10; walk_at "mini"
theorem st10b (w n : Int) (f g : Nat) (rv fo e : Bool) (rows : List (List Int)) (C W : List Int) (rec : D) (h10 : cf 10 [.fro (IL C), .fro rec, .fro (.bool rv)] dk = some (IL W, dk)) : ex cf t30_10 { v := [(.fro sc), .deck, .fro (.int w), .fro (.bool rv), .fro (.bool fo), .fro (.int n), .fro (nD f), .fro (.tup [nD f, nD g]), .fro (LL rows), .fro (.bool e), .fro (IL C), .fro (IL W), .fro rec, .unset, .unset, .unset, .unset, .unset, .unset], dk := dk } = some (.next, { v := [(.fro sc), .deck, .fro (.int w), .fro (.bool rv), .fro (.bool fo), .fro (.int n), .fro (nD f), .fro (.tup [nD f, nD g]), .fro (LL rows), .fro (.bool e), .fro (IL C), .fro (IL W), .fro rec, .unset, .unset, .unset, .unset, .unset, .unset], dk := dk }) := by
  have h : D.eqv (IL W) .none = false := rfl
  have hs := small_IL W
  have he : D.eqv (IL W) (IL W) = true := by rw [eqv_IL]; simp
  generalize LL rows = L at *
  generalize IL C = M at *
  generalize IL W = Z at *
  generalize D.tup [nD f, nD g] = T at *
  delta t30_10; walk_at "mini"
theorem st11 (w n : Int) (f g : Nat) (rv fo e : Bool) (rows : List (List Int)) (C W : List Int) (due rec : D) (h16 : cf 16 [.fro (IL C)] dk = some (IL W, dk)) (h25 : cf 25 [.fro (LL rows.reverse), .fro (.bool e)] dk = some (IL W, dk)) : ex cf t30_11 { v := [(.fro sc), .deck, .fro (.int w), .fro (.bool rv), .fro (.bool fo), .fro (.int n), .fro (nD f), .fro (.tup [nD f, nD g]), .fro (LL rows), .fro (.bool e), .fro (IL C), .fro due, .fro rec, .unset, .unset, .unset, .unset, .unset, .unset], dk := dk } = some (.next, { v := [(.fro sc), .deck, .fro (.int w), .fro (.bool rv), .fro (.bool fo), .fro (.int n), .fro (nD f), .fro (.tup [nD f, nD g]), .fro (LL rows), .fro (.bool e), .fro (IL C), .fro due, .fro rec, .unset, .unset, .unset, .unset, .unset, .unset], dk := dk }) := by
  have hs := small_IL W
  have he : D.eqv (IL W) (IL W) = true := by rw [eqv_IL]; simp
  simp only [LL, List.map_reverse] at h25
  simp only [LL]
  generalize rows.map IL = L at *
  generalize IL C = M at *
  generalize IL W = Z at *
  generalize D.tup [nD f, nD g] = T at *
  delta t30_11; walk_at "mini"
include h18 in
theorem st12 (w n : Int) (f g : Nat) (rv fo e : Bool) (rows : List (List Int)) (C : List Int) (due rec : D) : ∃ ls nx dk', ex cf t30_12 { v := [(.fro sc), .deck, .fro (.int w), .fro (.bool rv), .fro (.bool fo), .fro (.int n), .fro (nD f), .fro (.tup [nD f, nD g]), .fro (LL rows), .fro (.bool e), .fro (IL C), .fro due, .fro rec, .unset, .unset, .unset, .unset, .unset, .unset], dk := dk } = some (.next, { v := [(.fro sc), .deck, .fro (.int w), .fro (.bool rv), .fro (.bool fo), .fro (.int n), .fro (nD f), .fro (.tup [nD f, nD g]), .fro (LL rows), .fro (.bool e), .fro (IL C), .fro due, .fro rec, .fro (.bool ls), .fro (.bool nx), .unset, .unset, .unset, .unset], dk := dk' }) := by
  have e2 := h18 2 dk (by decide)
  have e3 := h18 2 (drawR dk) (by decide)
  generalize drawV dk 2 = x at e2
  generalize drawV (drawR dk) 2 = y at e3
  refine ⟨x == 1, y == 1, drawR (drawR dk), ?_⟩
  generalize LL rows = L at *
  generalize IL C = M at *
  generalize D.tup [nD f, nD g] = T at *
  delta t30_12; walk_at "mini"
theorem st13 (w n : Int) (f g : Nat) (rv fo e ls nx : Bool) (rows left : List (List Int)) (C : List Int) (due rec : D) (h29 : cf 29 [.fro (LL rows), .fro (.bool ls), .fro (.bool nx)] dk = some (LL left, dk)) : ex cf t30_13 { v := [(.fro sc), .deck, .fro (.int w), .fro (.bool rv), .fro (.bool fo), .fro (.int n), .fro (nD f), .fro (.tup [nD f, nD g]), .fro (LL rows), .fro (.bool e), .fro (IL C), .fro due, .fro rec, .fro (.bool ls), .fro (.bool nx), .unset, .unset, .unset, .unset], dk := dk } = some (.next, { v := [(.fro sc), .deck, .fro (.int w), .fro (.bool rv), .fro (.bool fo), .fro (.int n), .fro (nD f), .fro (.tup [nD f, nD g]), .fro (LL rows), .fro (.bool e), .fro (IL C), .fro due, .fro rec, .fro (.bool ls), .fro (.bool nx), .fro (LL left), .unset, .unset, .unset], dk := dk }) := by
  generalize LL rows = L at *
  generalize LL left = L' at *
  generalize IL C = M at *
  generalize D.tup [nD f, nD g] = T at *
  delta t30_13; walk_at "mini"
theorem st14 (w n : Int) (f g : Nat) (rv fo e ls nx : Bool) (rows left : List (List Int)) (C told : List Int) (many : Nat) (due rec : D) (h17 : cf 17 [.fro (IL C), .fro (.bool ls), .fro (.bool nx)] dk = some (.tup [IL told, nD many], dk)) : ex cf t30_14 { v := [(.fro sc), .deck, .fro (.int w), .fro (.bool rv), .fro (.bool fo), .fro (.int n), .fro (nD f), .fro (.tup [nD f, nD g]), .fro (LL rows), .fro (.bool e), .fro (IL C), .fro due, .fro rec, .fro (.bool ls), .fro (.bool nx), .fro (LL left), .unset, .unset, .unset], dk := dk } = some (.next, { v := [(.fro sc), .deck, .fro (.int w), .fro (.bool rv), .fro (.bool fo), .fro (.int n), .fro (nD f), .fro (.tup [nD f, nD g]), .fro (LL rows), .fro (.bool e), .fro (IL C), .fro due, .fro rec, .fro (.bool ls), .fro (.bool nx), .fro (LL left), .fro (IL told), .fro (nD many), .unset], dk := dk }) := by
  generalize LL rows = L at *
  generalize LL left = L' at *
  generalize IL C = M at *
  generalize IL told = Z at *
  generalize D.tup [nD f, nD g] = T at *
  delta t30_14; walk_at "mini"
theorem st15 (w n : Int) (f g : Nat) (rv fo e ls nx : Bool) (rows left : List (List Int)) (hne : rows ≠ []) (C told : List Int) (many : Nat) (due rec : D) (isg : Bool) (hisg : isg = (!ls && goneB rows nx)) : ex cf t30_15 { v := [(.fro sc), .deck, .fro (.int w), .fro (.bool rv), .fro (.bool fo), .fro (.int n), .fro (nD f), .fro (.tup [nD f, nD g]), .fro (LL rows), .fro (.bool e), .fro (IL C), .fro due, .fro rec, .fro (.bool ls), .fro (.bool nx), .fro (LL left), .fro (IL told), .fro (nD many), .unset], dk := dk } = some (.next, { v := [(.fro sc), .deck, .fro (.int w), .fro (.bool rv), .fro (.bool fo), .fro (.int n), .fro (nD f), .fro (.tup [nD f, nD g]), .fro (LL rows), .fro (.bool e), .fro (IL C), .fro due, .fro rec, .fro (.bool ls), .fro (.bool nx), .fro (LL left), .fro (IL told), .fro (nD many), .fro (.bool isg)], dk := dk }) := by
  subst hisg
  cases ls with
  | true =>
    generalize LL rows = L at *
    generalize LL left = L' at *
    generalize IL C = M at *
    generalize IL told = Z at *
    generalize D.tup [nD f, nD g] = T at *
    exact X_asg (V_and_f (F_of (V_not (F_fro rfl)) rfl) rfl) rfl
  | false =>
    have hs := small_IL (rows.getLastD [])
    have il := item_lastD rows hne
    have ha := any_IL (if nx then rows.dropLast.drop (rows.dropLast.length - 1) else rows.dropLast) (rows.getLastD [])
    have c1 : cut (rows.map IL) (some (-2)) (some (-1)) = (rows.dropLast.drop (rows.dropLast.length - 1)).map IL := cut_two rows
    have c2 : cut (rows.map IL) none (some (-1)) = rows.dropLast.map IL := cut_init rows
    have hg : (!false && goneB rows nx) = (if nx then rows.dropLast.drop (rows.dropLast.length - 1) else rows.dropLast).contains (rows.getLastD []) := rfl
    rw [hg]
    generalize IL (rows.getLastD []) = X at *
    generalize IL C = M at *
    generalize IL told = Z at *
    generalize D.tup [nD f, nD g] = T at *
    generalize LL left = L' at *
    cases nx with
    | true =>
      simp only [if_true] at ha ⊢
      rw [← ha]
      generalize (rows.dropLast.drop (rows.dropLast.length - 1)).map IL = Y at *
      simp only [LL] at il ⊢
      generalize rows.map IL = L at *
      exact X_asg (V_and_t (F_of (V_not (F_fro rfl)) rfl) rfl (V_inn (F_of (V_idxV rfl (F_of (V_neg F_int) rfl) rfl rfl il) rfl) (B_ite_t (T_F rfl (F_fro rfl)) rfl (B_F rfl (F_of (V_sliceV rfl (O_some (F_of (V_neg F_int) rfl)) (O_some (F_of (V_neg F_int) rfl)) rfl rfl c1) rfl))) (itT hs rfl))) rfl
    | false =>
      simp only [Bool.false_eq_true, if_false] at ha ⊢
      rw [← ha]
      generalize rows.dropLast.map IL = Y at *
      simp only [LL] at il ⊢
      generalize rows.map IL = L at *
      exact X_asg (V_and_t (F_of (V_not (F_fro rfl)) rfl) rfl (V_inn (F_of (V_idxV rfl (F_of (V_neg F_int) rfl) rfl rfl il) rfl) (B_ite_f (T_F rfl (F_fro rfl)) rfl (B_F rfl (F_of (V_sliceV rfl O_none (O_some (F_of (V_neg F_int) rfl)) rfl rfl c2) rfl))) (itT hs rfl))) rfl
theorem st16 (w n : Int) (f g : Nat) (rv fo e ls nx : Bool) (rows left : List (List Int)) (C told : List Int) (many : Nat) (due rec : D) (isg : Bool) (hm : many + left.length = rows.length) (h25 : cf 25 [.fro (LL left), .fro (.bool (e || isg))] dk = some (IL told, dk)) : ex cf t30_16 { v := [(.fro sc), .deck, .fro (.int w), .fro (.bool rv), .fro (.bool fo), .fro (.int n), .fro (nD f), .fro (.tup [nD f, nD g]), .fro (LL rows), .fro (.bool e), .fro (IL C), .fro due, .fro rec, .fro (.bool ls), .fro (.bool nx), .fro (LL left), .fro (IL told), .fro (nD many), .fro (.bool isg)], dk := dk } = some (.ret (.fro (.bool true)), { v := [(.fro sc), .deck, .fro (.int w), .fro (.bool rv), .fro (.bool fo), .fro (.int n), .fro (nD f), .fro (.tup [nD f, nD g]), .fro (LL rows), .fro (.bool e), .fro (IL C), .fro due, .fro rec, .fro (.bool ls), .fro (.bool nx), .fro (LL left), .fro (IL told), .fro (nD many), .fro (.bool isg)], dk := dk }) := by
  have hmi : (((many : Nat) : Int) == ((rows.length : Nat) : Int) - ((left.length : Nat) : Int)) = true := by rw [beq_iff_eq]; (first | lia | omega)
  have hs := small_IL told
  have he : D.eqv (IL told) (IL told) = true := by rw [eqv_IL]; simp
  have hl1 : lenOf (.fro (LL rows)) = some rows.length := congrArg some (List.length_map ..)
  have hl2 : lenOf (.fro (LL left)) = some left.length := congrArg some (List.length_map ..)
  generalize IL C = M at *
  generalize IL told = Z at *
  generalize D.tup [nD f, nD g] = T at *
  generalize LL rows = L at *
  generalize LL left = L' at *
  cases e with
  | true => exact X_ret (V_and_t (F_of (V_cmp (F_fro rfl) (F_of (V_sub (F_of (V_len (B_var rfl rfl) hl1) rfl) (F_of (V_len (B_var rfl rfl) hl2) rfl) rfl) rfl) eq_int) rfl) hmi (V_cmp (F_fro rfl) (F_of (V_call (A_cons (V_fro rfl) rfl (A_cons (V_or_t (F_fro rfl) rfl) rfl A_nil)) h25) rfl) (eq_small hs he)))
  | false => exact X_ret (V_and_t (F_of (V_cmp (F_fro rfl) (F_of (V_sub (F_of (V_len (B_var rfl rfl) hl1) rfl) (F_of (V_len (B_var rfl rfl) hl2) rfl) rfl) rfl) eq_int) rfl) hmi (V_cmp (F_fro rfl) (F_of (V_call (A_cons (V_fro rfl) rfl (A_cons (V_or_f (F_fro rfl) rfl (V_fro rfl)) rfl A_nil)) h25) rfl) (eq_small hs he)))
end
theorem exs_next {cf : CF} {s : Sm} {r : Sms} {st st1 : St} {o : Option (Ctl × St)} (h : ex cf s st = some (.next, st1)) (h2 : exs cf r st1 = o) : exs cf (.cons s r) st = o := by
  show seqS (ex cf s) (exs cf r) st = o
  rw [seq_next h]; exact h2
theorem exs_ret {cf : CF} {s : Sm} {r : Sms} {st st1 : St} {d : Slot} (h : ex cf s st = some (.ret d, st1)) : exs cf (.cons s r) st = some (.ret d, st1) := by
  show seqS (ex cf s) (exs cf r) st = _
  simp [seqS, h]
theorem law_tail (sc : D) (dl : List Int) : ∃ stE, exs (callF tblE 12) lawTl { v := .fro sc :: .deck :: List.replicate 17 .unset, dk := dl } = some (.ret (.fro (.bool true)), stE) := by
  rw [lawTl_eq]
  have h18 : ∀ (n : Int) (dk : List Int), n ≠ 0 → callF tblE 12 18 [.deck, .fro (.int n)] dk = some (.int (drawV dk n), drawR dk) := fun n dk h => c_draw 11 n dk h
  have h19 : ∀ (dk : List Int), ∃ (row : List Int) (dk' : List Int), callF tblE 12 19 [.deck] dk = some (IL row, dk') ∧ row.length ≤ 5 ∧ ∀ c ∈ row, okc c := fun dk => c_lrow 10 dk
  obtain ⟨w, rv, fo, dk1, hw, e1⟩ := st1 h18 sc dl
  obtain ⟨n, f, dk2, hnn, e2⟩ := st2 h18 sc dk1 w rv fo
  obtain ⟨g, dk3, e3⟩ := st3 h18 sc dk2 w n f rv fo
  obtain ⟨rows, dk4, hne, hn, hrc, e4⟩ := st4 h18 sc dk3 h19 w n f g rv fo
  obtain ⟨e, dk5, hend, e5⟩ := st5 h18 sc dk4 w n f g rv fo rows hne
  have hr : ∀ r ∈ rows, r.length ≤ 5 := fun r h => (hrc r h).1
  have hc : ∀ r ∈ rows, ∀ c ∈ r, okc c := fun r h => (hrc r h).2
  have hCl : (textL rows e).length ≤ 30 := by
    have h1 := textL_len e rows hr
    have : rows.length * (5 + 1) ≤ 5 * (5 + 1) := Nat.mul_le_mul_right _ hn
    (first | lia | omega)
  have hrows : rowsL (textL rows e) 0 0 = offs rows 0 := rowsL_text e rows 0 (fun r hr => okc_no10 (hc r hr)) hend
  have hol : (offs rows 0).length ≤ 5 := by rw [offs_len]; exact hn
  have hp : ∀ p ∈ rowsL (textL rows e) 0 0, p.1 ≤ p.2 ∧ p.2 ≤ (textL rows e).length ∧ p.2 - p.1 ≤ 10 := fun p h => by
    rw [hrows] at h
    exact ⟨(offs_in rows e p h).1, (offs_in rows e p h).2, offs_short rows 0 hr p h⟩
  have e6 := st6 sc dk5 w n f g rv fo e rows (textL rows e) (c_text 11 rows e dk5 (by (first | lia | omega)) (by unfold lim; (first | lia | omega)))
  have e7 := st7 sc dk5 w n f g rv fo e rows (textL rows e) _ (c_due 9 rows hne hn hr w n hnn f g fo rv e dk5)
  have hag := agree_all rows e rv hn hc hend w n hw f g fo
  have e8 := st8 sc dk5 w n f g rv fo e rows (textL rows e) (dueT rows w n f g fo rv e) _ (c_records 7 (textL rows e) dk5 (by (first | lia | omega)) (by rw [hrows]; (first | lia | omega)) hp w n hw hnn f g fo)
  generalize dueT rows w n f g fo rv e = due at *
  generalize recsT (textL rows e) w n f g fo = rec at *
  have e9 := st9 (cf := callF tblE 12) sc dk5 w n f g rv fo e rows (textL rows e) due rec (by
    rcases hag with ⟨rfl, rfl⟩ | ⟨rs, W, rfl, rfl, _⟩
    · rfl
    · rfl)
  have e10 : ex (callF tblE 12) t30_10 { v := [.fro sc, .deck, .fro (.int w), .fro (.bool rv), .fro (.bool fo), .fro (.int n), .fro (nD f), .fro (.tup [nD f, nD g]), .fro (LL rows), .fro (.bool e), .fro (IL (textL rows e)), .fro due, .fro rec, .unset, .unset, .unset, .unset, .unset, .unset], dk := dk5 } = some (.next, { v := [.fro sc, .deck, .fro (.int w), .fro (.bool rv), .fro (.bool fo), .fro (.int n), .fro (nD f), .fro (.tup [nD f, nD g]), .fro (LL rows), .fro (.bool e), .fro (IL (textL rows e)), .fro due, .fro rec, .unset, .unset, .unset, .unset, .unset, .unset], dk := dk5 }) := by
    rcases hag with ⟨h1, h2⟩ | ⟨rs, W, h1, h2, h3, h4, h5, h6, h7⟩
    · exact st10a (cf := callF tblE 12) sc dk5 w n f g rv fo e rows (textL rows e) due rec (by rw [h2]; rfl)
    · have hput := c_put 9 (textL rows e) rs rv dk5 h3 h4 h7 h5 (by (first | lia | omega))
      rw [h6, ← h1] at hput
      have := st10b (cf := callF tblE 12) sc dk5 w n f g rv fo e rows (textL rows e) W rec hput
      rw [← h2] at this
      exact this
  have hrevl : (textL rows.reverse e).length ≤ 30 := by
    have h1 := textL_len (m := 5) e rows.reverse fun r h => hr r (List.mem_reverse.mp h)
    rw [List.length_reverse] at h1
    have : rows.length * (5 + 1) ≤ 5 * (5 + 1) := Nat.mul_le_mul_right _ hn
    (first | lia | omega)
  have hturn := turn_rows rows e
  have c16 := c_turned 10 (textL rows e) dk5 (by (first | lia | omega)) (by rw [hrows]; (first | lia | omega)) (by rw [hrows, hturn]; unfold lim; (first | lia | omega))
  rw [hrows, hturn] at c16
  have e11 := st11 sc dk5 w n f g rv fo e rows (textL rows e) (textL rows.reverse e) due rec c16 (c_text 11 rows.reverse e dk5 (by rw [List.length_reverse]; (first | lia | omega)) (by unfold lim; (first | lia | omega)))
  obtain ⟨ls, nx, dk6, e12⟩ := st12 h18 sc dk5 w n f g rv fo e rows (textL rows e) due rec
  have e13 := st13 sc dk6 w n f g rv fo e ls nx rows (withoutL rows ls nx) (textL rows e) due rec (c_lwithout 11 rows ls nx dk6 (by (first | lia | omega)))
  obtain ⟨hgl, _⟩ := gone_facts rows ls nx
  have hout := out_text rows hne e ls nx
  have hlr : ∀ r ∈ withoutL rows ls nx, r.length ≤ 5 := fun r h => by
    rw [without_pick] at h
    exact hr r (pick_mem _ _ h)
  have hleftl : (textL (withoutL rows ls nx) (e || (!ls && goneB rows nx))).length ≤ 30 := by
    have h1 := textL_len (e || (!ls && goneB rows nx)) _ hlr
    have : (withoutL rows ls nx).length * (5 + 1) ≤ 5 * (5 + 1) := Nat.mul_le_mul_right _ (by (first | lia | omega))
    (first | lia | omega)
  have hsl : (rowsL (textL rows e) 0 0).map (fun p => slice (textL rows e) p.1 p.2) = rows := by rw [hrows]; exact offs_slices rows e
  have c17 := c_without 10 (textL rows e) ls nx dk6 (by (first | lia | omega)) (by rw [hrows]; (first | lia | omega)) (by rw [hsl, hrows, hout]; unfold lim; (first | lia | omega))
  rw [hsl, hrows, hout] at c17
  have e14 := st14 sc dk6 w n f g rv fo e ls nx rows (withoutL rows ls nx) (textL rows e) _ _ due rec c17
  have e15 := st15 (cf := callF tblE 12) sc dk6 w n f g rv fo e ls nx rows (withoutL rows ls nx) hne (textL rows e) (textL (withoutL rows ls nx) (e || (!ls && goneB rows nx))) (goneT rows ls nx).length due rec _ rfl
  have e16 := st16 sc dk6 w n f g rv fo e ls nx rows (withoutL rows ls nx) (textL rows e) (textL (withoutL rows ls nx) (e || (!ls && goneB rows nx))) (goneT rows ls nx).length due rec (!ls && goneB rows nx) hgl (c_text 11 _ _ dk6 (by (first | lia | omega)) (by unfold lim; (first | lia | omega)))
  exact ⟨_, exs_next e1 (exs_next e2 (exs_next e3 (exs_next e4 (exs_next e5 (exs_next e6 (exs_next e7 (exs_next e8 (exs_next e9 (exs_next e10 (exs_next e11 (exs_next e12 (exs_next e13 (exs_next e14 (exs_next e15 (exs_ret e16)))))))))))))))⟩
theorem law_head (il : List Int) : (ev (callF tblE 12) lawHd).val { v := .fro (.list (il.map D.int)) :: .unset :: List.replicate 17 .unset, dk := [] } = some (.own (((il.take 50).map fun i => ((i.natAbs : Nat) : Int)).map D.int), { v := .fro (.list (il.map D.int)) :: .unset :: List.replicate 17 .unset, dk := [] }) := by
  have hE : lawHd = .comp [] 1 (.val (.sliceV 0 .none (.some (.int 50)))) .nil f30_e0 := rfl
  rw [hE]
  obtain ⟨s', o⟩ : ∃ s' : Slot, compL (compOne 19 1 (evC (callF tblE 12) .nil) (ev (callF tblE 12) f30_e0)) ((il.take 50).map D.int) { v := [.unset, .unset, .unset, .unset, .unset, .unset, .unset, .unset, .unset, .unset, .unset, .unset, .unset, .unset, .unset, .unset, .unset, .unset, .unset, .unset], dk := [] } =
      some (((il.take 50).map fun i => ((i.natAbs : Nat) : Int)).map D.int, { v := [.unset, .unset, .unset, .unset, .unset, .unset, .unset, .unset, .unset, .unset, .unset, .unset, .unset, .unset, .unset, .unset, .unset, .unset, .unset, s'], dk := [] }) := by
    rw [List.map_map, ← fm_some (D.int ∘ fun i : Int => ((i.natAbs : Nat) : Int))]
    refine compL_gen D.int _ (fun s : Slot => { v := [.unset, .unset, .unset, .unset, .unset, .unset, .unset, .unset, .unset, .unset, .unset, .unset, .unset, .unset, .unset, .unset, .unset, .unset, .unset, s], dk := [] }) (il.take 50) .unset ?_
    intro i _ s
    refine ⟨.fro (.int i), ?_⟩
    delta f30_e0; walk_at "mini"
  have hc : cut (il.map D.int) none (some 50) = (il.map D.int).take 50 := cut_head (il.map D.int) 50
  rw [List.map_take] at o
  generalize ((il.take 50).map fun i => ((i.natAbs : Nat) : Int)).map D.int = out at *
  walk_at "mini"
theorem plain : PlainLaw := by
  intro il hil
  obtain ⟨stE, h⟩ := law_tail (.list (il.map D.int)) ((il.take 50).map fun i => ((i.natAbs : Nat) : Int))
  exact ⟨_, stE, by simp; (first | lia | omega), law_head il, h⟩
end Mini
end
end
theorem PySem.Challenge.cw_np0027_01_holds : PySem.Challenge.rw_np0027_01.Holds :=
  Mini.final Mini.plain
