import PyProof.Rows.All
import Wide.All
import OpenK.AllK
import Wide.FinOn
import HandS.ForMost
import HandS.Flow
import HandS.TupAny
import HandS.TupMul
import HandS.Conv
import HandS.IsInst
import HandS.Deep
import HandS.NoneIn
import HandS.Gcd
import PySem.Challenge.RW_sharepage_k33_bound_steps_factor_most_fi
section
set_option autoImplicit false
set_option linter.all false
/-! MPCore: a small interpreter over clean data. P: None, bools, ints, texts, tuples; D: data or the place of a list; the heap: a list of cells. -/
namespace MP
open PySem (Str)

inductive P where
  | non | bl (b : Bool) | int (i : Int) | str (s : Str) | tup (xs : List P)
inductive D where
  | p (x : P) | ref (n : Nat)
inductive Cell where
  | lst (xs : List D) | rol (xs : List D)
abbrev Hh := List Cell
structure Exn where
  cls : Nat
  args : List P
inductive Res (α : Type) where
  | ok (a : α) (h : Hh) | exc (x : Exn) (h : Hh) | stuck
abbrev Ev := List (Option D)
abbrev ME := Ev → Hh → Res D
abbrev MEs := Ev → Hh → Res (List D)
abbrev MT := Ev → Hh → Res Bool
inductive Out where
  | nx (ρ : Ev) (h : Hh) | rt (d : D) (h : Hh) | bk (ρ : Ev) (h : Hh) | ct (ρ : Ev) (h : Hh) | exc (x : Exn) (h : Hh) | stuck
abbrev MS := Ev → Hh → Out

def Res.bind {α β : Type} (r : Res α) (k : α → Hh → Res β) : Res β :=
  match r with
  | .ok a h => k a h
  | .exc x h => .exc x h
  | .stuck => .stuck
def Res.out {α : Type} (r : Res α) (k : α → Hh → Out) : Out :=
  match r with
  | .ok a h => k a h
  | .exc x h => .exc x h
  | .stuck => .stuck

/-! ### data -/
def szl : Nat := 16777216
mutual
def P.eqv : P → P → Bool
  | .non, .non => true
  | .bl a, .bl b => a == b
  | .bl a, .int j => (if a then 1 else 0) == j
  | .int i, .bl b => i == (if b then 1 else 0)
  | .int i, .int j => i == j
  | .str x, .str y => x == y
  | .tup xs, .tup ys => P.eqvL xs ys
  | .non, .bl _ | .non, .int _ | .non, .str _ | .non, .tup _ => false
  | .bl _, .non | .bl _, .str _ | .bl _, .tup _ => false
  | .int _, .non | .int _, .str _ | .int _, .tup _ => false
  | .str _, .non | .str _, .bl _ | .str _, .int _ | .str _, .tup _ => false
  | .tup _, .non | .tup _, .bl _ | .tup _, .int _ | .tup _, .str _ => false
def P.eqvL : List P → List P → Bool
  | [], [] => true
  | x :: xs, y :: ys => P.eqv x y && P.eqvL xs ys
  | [], _ :: _ => false
  | _ :: _, [] => false
end
mutual
def P.depth : P → Nat
  | .tup xs => P.depthL xs + 1
  | .non | .bl _ | .int _ | .str _ => 0
def P.depthL : List P → Nat
  | [] => 0
  | x :: xs => max (P.depth x) (P.depthL xs)
end
/-- the data of a value that has no list -/
def D.pure? : D → Option P
  | .p x => some x
  | .ref _ => none
def pures : List D → Option (List P)
  | [] => some []
  | .p x :: ds => (pures ds).map (x :: ·)
  | .ref _ :: _ => none
def D.below (n : Nat) : D → Bool
  | .p _ => true
  | .ref m => decide (m < n)
def Cell.items : Cell → List D
  | .lst xs => xs
  | .rol xs => xs
def Cell.below (n : Nat) (c : Cell) : Bool := c.items.all (D.below n)
/-- a list that may be read -/
def seqAt (h : Hh) (n : Nat) : Option (List D) := (h[n]?).map Cell.items
/-- a list that may be written -/
def lstAt (h : Hh) (n : Nat) : Option (List D) :=
  match h[n]? with
  | some (.lst xs) => some xs
  | _ => none
def inW (i : Int) : Bool := decide (-18446744073709551616 < i) && decide (i < 18446744073709551616)
def ixN (n : Nat) (i : Int) : Option Nat := if 0 ≤ i then (if i < n then some i.toNat else none) else if -(n : Int) ≤ i then some (i + n).toNat else none
def atI {α : Type} (xs : List α) (i : Int) : Option α := (ixN xs.length i).bind fun j => xs[j]?
def sIx (n d : Nat) : Option Int → Nat
  | none => d
  | some v => if v < 0 then (v + (n : Int)).toNat else min v.toNat n
def cut {α : Type} (xs : List α) (lo hi : Option Int) : List α := (xs.drop (sIx xs.length 0 lo)).take (sIx xs.length xs.length hi - sIx xs.length 0 lo)
def reps {α : Type} (k : Nat) (xs : List α) : List α := (List.replicate k xs).flatten
def newL (xs : List D) (h : Hh) : Res D := if xs.length ≤ szl then .ok (.ref h.length) (h ++ [.lst xs]) else .stuck
def okP (x : P) (h : Hh) : Res D := .ok (.p x) h

/-! ### operators, by values -/
def addD (x y : D) (h : Hh) : Res D :=
  match x, y with
  | .p (.int i), .p (.int j) => okP (.int (i + j)) h
  | .p (.tup xs), .p (.tup ys) => if xs.length + ys.length ≤ szl then okP (.tup (xs ++ ys)) h else .stuck
  | .ref a, .ref b =>
    match lstAt h a, lstAt h b with
    | some xs, some ys => newL (xs ++ ys) h
    | _, _ => .stuck
  | _, _ => .stuck
def subD (x y : D) (h : Hh) : Res D :=
  match x, y with
  | .p (.int i), .p (.int j) => okP (.int (i - j)) h
  | _, _ => .stuck
def mulD (x y : D) (h : Hh) : Res D :=
  match x, y with
  | .p (.int i), .p (.int j) => if inW i || inW j then okP (.int (i * j)) h else .stuck
  | .p (.tup xs), .p (.int k) => if decide (1 ≤ k) && decide (k ≤ 1000) && decide (1 ≤ xs.length) && decide (xs.length ≤ 1000) then okP (.tup (reps k.toNat xs)) h else .stuck
  | .ref a, .p (.int k) =>
    match lstAt h a with
    | some xs => if decide (-1000000 ≤ k) && decide (k ≤ 1000000) && decide (xs.length * k.toNat ≤ szl) then newL (reps k.toNat xs) h else .stuck
    | none => .stuck
  | _, _ => .stuck
def fdivD (x y : D) (h : Hh) : Res D :=
  match x, y with
  | .p (.int i), .p (.int j) => if decide (j ≠ 0) && decide (j.natAbs < 1073741824) then okP (.int (i.fdiv j)) h else .stuck
  | _, _ => .stuck
def modD (x y : D) (h : Hh) : Res D :=
  match x, y with
  | .p (.int i), .p (.int j) => if j ≠ 0 then okP (.int (i.fmod j)) h else .stuck
  | _, _ => .stuck
def powD (x y : D) (h : Hh) : Res D :=
  match x, y with
  | .p (.int i), .p (.int j) => if decide (0 ≤ j) && decide (j ≤ 1000) && decide (i.natAbs < 18446744073709551616) then okP (.int (i ^ j.toNat)) h else .stuck
  | _, _ => .stuck
def negD (x : D) (h : Hh) : Res D :=
  match x with
  | .p (.int i) => okP (.int (-i)) h
  | _ => .stuck
def shaped (x : P) : Bool := decide (x.depth ≤ 60)
def eqD (x y : D) (h : Hh) : Res Bool :=
  match x, y with
  | .p a, .p b => if shaped a && shaped b then .ok (a.eqv b) h else .stuck
  | .ref a, .ref b =>
    match (seqAt h a).bind pures, (seqAt h b).bind pures with
    | some xs, some ys => if shaped (.tup xs) && shaped (.tup ys) then .ok (P.eqvL xs ys) h else .stuck
    | _, _ => .stuck
  | _, _ => .stuck
def cmpI (f : Int → Int → Bool) (x y : D) (h : Hh) : Res Bool :=
  match x, y with
  | .p (.int i), .p (.int j) => .ok (f i j) h
  | _, _ => .stuck
def flatP : P → Bool
  | .tup _ => false
  | _ => true
def inD (x y : D) (h : Hh) : Res Bool :=
  match x, y with
  | .p a, .p (.tup ys) => if flatP a && ys.all flatP then .ok (ys.any fun z => z.eqv a) h else .stuck
  | .p a, .ref n =>
    match (seqAt h n).bind pures with
    | some ys => if shaped a && shaped (.tup ys) then .ok (ys.any fun z => z.eqv a) h else .stuck
    | none => .stuck
  | _, _ => .stuck
inductive Cop where
  | eq | ne | lt | le | gt | ge | isin | notin
def notR (r : Res Bool) : Res Bool := r.bind fun b h => .ok (!b) h
def copD : Cop → D → D → Hh → Res Bool
  | .eq, x, y, h => eqD x y h
  | .ne, x, y, h => notR (eqD x y h)
  | .lt, x, y, h => cmpI (fun i j => decide (i < j)) x y h
  | .le, x, y, h => cmpI (fun i j => decide (i ≤ j)) x y h
  | .gt, x, y, h => cmpI (fun i j => decide (j < i)) x y h
  | .ge, x, y, h => cmpI (fun i j => decide (j ≤ i)) x y h
  | .isin, x, y, h => inD x y h
  | .notin, x, y, h => notR (inD x y h)
inductive Bop where
  | add | sub | mul | fdiv | mod | pow
def bopD : Bop → D → D → Hh → Res D
  | .add => addD | .sub => subD | .mul => mulD | .fdiv => fdivD | .mod => modD | .pow => powD
def isNone : D → Bool
  | .p .non => true
  | _ => false
def truD (x : D) (h : Hh) : Res Bool :=
  match x with
  | .p .non => .ok false h
  | .p (.bl b) => .ok b h
  | .p (.int i) => .ok (i != 0) h
  | .p (.str s) => .ok ((s.length : Int) != 0) h
  | .p (.tup xs) => .ok (!xs.isEmpty) h
  | .ref n =>
    match seqAt h n with
    | some xs => .ok (!xs.isEmpty) h
    | none => .stuck
def idxD (x y : D) (h : Hh) : Res D :=
  match x, y with
  | .p (.tup xs), .p (.int i) =>
    match atI xs i with
    | some v => okP v h
    | none => .stuck
  | .ref n, .p (.int i) =>
    match (seqAt h n).bind (fun xs => atI xs i) with
    | some v => .ok v h
    | none => .stuck
  | _, _ => .stuck
def cutD (x : D) (lo hi : Option Int) (h : Hh) : Res D :=
  match x with
  | .p (.tup xs) => okP (.tup (cut xs lo hi)) h
  | .ref n =>
    match seqAt h n with
    | some xs => newL (cut xs lo hi) h
    | none => .stuck
  | _ => .stuck
inductive Ty where
  | tuple | str | int | bool | list
def isTy : Ty → D → Bool
  | .tuple, .p (.tup _) => true
  | .str, .p (.str _) => true
  | .int, .p (.int _) => true
  | .int, .p (.bl _) => true
  | .bool, .p (.bl _) => true
  | .list, .ref _ => true
  | _, _ => false
/-- built-ins called with values -/
inductive Blt where
  | len | abs | min2 | max2 | int | list | tuple
def lenD (x : D) (h : Hh) : Res D :=
  match x with
  | .p (.tup ys) => okP (.int ys.length) h
  | .p (.str s) => okP (.int s.length) h
  | .ref n =>
    match seqAt h n with
    | some ys => okP (.int ys.length) h
    | none => .stuck
  | _ => .stuck
def absD (x : D) (h : Hh) : Res D :=
  match x with
  | .p (.int i) => okP (.int (if i < 0 then -i else i)) h
  | _ => .stuck
def minD (x y : D) (h : Hh) : Res D :=
  match x, y with
  | .p (.int i), .p (.int j) => okP (.int (if j < i then j else i)) h
  | _, _ => .stuck
def maxD (x y : D) (h : Hh) : Res D :=
  match x, y with
  | .p (.int i), .p (.int j) => okP (.int (if j > i then j else i)) h
  | _, _ => .stuck
def intD (x : D) (h : Hh) : Res D :=
  match x with
  | .p (.int i) => okP (.int i) h
  | .p (.bl b) => okP (.int (if b then 1 else 0)) h
  | _ => .stuck
def listD (x : D) (h : Hh) : Res D :=
  match x with
  | .p (.tup ys) => newL (ys.map .p) h
  | .ref n =>
    match seqAt h n with
    | some ys => newL ys h
    | none => .stuck
  | _ => .stuck
def tupleD (x : D) (h : Hh) : Res D :=
  match x with
  | .p (.tup ys) => okP (.tup ys) h
  | .ref n =>
    match (seqAt h n).bind pures with
    | some ys => okP (.tup ys) h
    | none => .stuck
  | _ => .stuck
def un1 (f : D → Hh → Res D) (ds : List D) (h : Hh) : Res D :=
  match ds with
  | [x] => f x h
  | _ => .stuck
def un2 (f : D → D → Hh → Res D) (ds : List D) (h : Hh) : Res D :=
  match ds with
  | [x, y] => f x y h
  | _ => .stuck
def bltD (b : Blt) : List D → Hh → Res D :=
  match b with
  | .len => un1 lenD | .abs => un1 absD | .min2 => un2 minD | .max2 => un2 maxD | .int => un1 intD | .list => un1 listD | .tuple => un1 tupleD
/-- methods of lists -/
inductive Mth where
  | append | pop0 | pop1
def appendD (n : Nat) (d : D) (h : Hh) : Res D :=
  match lstAt h n with
  | some ys => if decide (ys.length < szl) && d.below n then okP .non (h.set n (.lst (ys ++ [d]))) else .stuck
  | none => .stuck
def pop0D (n : Nat) (h : Hh) : Res D :=
  match lstAt h n with
  | some ys =>
    match ys[ys.length - 1]? with
    | some y => .ok y (h.set n (.lst ys.dropLast))
    | none => .stuck
  | none => .stuck
def pop1D (n : Nat) (d : D) (h : Hh) : Res D :=
  match lstAt h n, d with
  | some ys, .p (.int i) =>
    match (if decide (-1000000000 ≤ i) && decide (i ≤ 1000000000) then ixN ys.length i else none) with
    | some k =>
      match ys[k]? with
      | some y => .ok y (h.set n (.lst (ys.eraseIdx k)))
      | none => .stuck
    | none => .stuck
  | _, _ => .stuck
def lm0 (f : Nat → Hh → Res D) (x : D) (ds : List D) (h : Hh) : Res D :=
  match x, ds with
  | .ref n, [] => f n h
  | _, _ => .stuck
def lm1 (f : Nat → D → Hh → Res D) (x : D) (ds : List D) (h : Hh) : Res D :=
  match x, ds with
  | .ref n, [d] => f n d h
  | _, _ => .stuck
def mthD (m : Mth) : D → List D → Hh → Res D :=
  match m with
  | .append => lm1 appendD | .pop0 => lm0 pop0D | .pop1 => lm1 pop1D
def setD (o i v : D) (h : Hh) : Res Unit :=
  match o, i with
  | .ref n, .p (.int k) =>
    match lstAt h n with
    | some ys =>
      match ixN ys.length k with
      | some j => if v.below n then .ok () (h.set n (.lst (ys.set j v))) else .stuck
      | none => .stuck
    | none => .stuck
  | _, _ => .stuck

/-! ### what is left of the heap -/
/-- behind an expression: its own new lists are forgotten where nothing leads to them; a new list alone moves to the first free place -/
def gcv (n : Nat) (d : D) (h : Hh) : Res D :=
  if d.below n then .ok d (h.take n)
  else match d with
    | .p x => .ok (.p x) h
    | .ref m =>
      match h[m]? with
      | some c => if c.below n then .ok (.ref n) (h.take n ++ [c]) else .ok (.ref m) h
      | none => .ok (.ref m) h
def oBelow (n : Nat) : Option D → Bool
  | none => true
  | some d => d.below n
def gce (n : Nat) (ρ : Ev) (h : Hh) : Hh := if ρ.all (oBelow n) then h.take n else h

/-! ### expressions -/
def mv (i : Nat) : ME := fun ρ h =>
  match ρ[i]? with
  | some (some d) => .ok d h
  | _ => .stuck
def mc (x : P) : ME := fun _ h => .ok (.p x) h
def mgc (m : ME) : ME := fun ρ h => (m ρ h).bind fun d h' => gcv h.length d h'
def mes : List ME → MEs
  | [] => fun _ h => .ok [] h
  | m :: ms => fun ρ h => (m ρ h).bind fun d h1 => (mes ms ρ h1).bind fun ds h2 => .ok (d :: ds) h2
def mtup (es : List ME) : ME := fun ρ h => (mes es ρ h).bind fun ds h1 =>
  match pures ds with
  | some xs => if xs.length ≤ szl then .ok (.p (.tup xs)) h1 else .stuck
  | none => .stuck
def mlst (es : List ME) : ME := fun ρ h => (mes es ρ h).bind fun ds h1 => newL ds h1
def mbin (o : Bop) (a b : ME) : ME := fun ρ h => (a ρ h).bind fun x h1 => (b ρ h1).bind fun y h2 => bopD o x y h2
def mneg (a : ME) : ME := fun ρ h => (a ρ h).bind fun x h1 => negD x h1
def mcmpT (o : Cop) (a b : ME) : MT := fun ρ h => (a ρ h).bind fun x h1 => (b ρ h1).bind fun y h2 => copD o x y h2
def mchT (o o' : Cop) (a b c : ME) : MT := fun ρ h => (a ρ h).bind fun x h1 => (b ρ h1).bind fun y h2 => (copD o x y h2).bind fun k h3 =>
  if k then (c ρ h3).bind fun z h4 => copD o' y z h4 else .ok false h3
def misnT (neg : Bool) (a : ME) : MT := fun ρ h => (a ρ h).bind fun x h1 => .ok (isNone x != neg) h1
def mB (t : MT) : ME := fun ρ h => (t ρ h).bind fun b h1 => .ok (.p (.bl b)) h1
/-- a test of a value -/
def mtru (a : ME) : MT := fun ρ h => (a ρ h).bind fun x h1 => truD x h1
def mnotT (t : MT) : MT := fun ρ h => (t ρ h).bind fun b h1 => .ok (!b) h1
def mandT (t u : MT) : MT := fun ρ h => (t ρ h).bind fun b h1 => if b then u ρ h1 else .ok false h1
def morT (t u : MT) : MT := fun ρ h => (t ρ h).bind fun b h1 => if b then .ok true h1 else u ρ h1
def mnot (a : ME) : ME := fun ρ h => (a ρ h).bind fun x h1 => (truD x h1).bind fun b h2 => .ok (.p (.bl (!b))) h2
def mand (a b : ME) : ME := fun ρ h => (a ρ h).bind fun x h1 => (truD x h1).bind fun k h2 => if k then b ρ h2 else .ok x h2
def mor (a b : ME) : ME := fun ρ h => (a ρ h).bind fun x h1 => (truD x h1).bind fun k h2 => if k then .ok x h2 else b ρ h2
def mifx (t : MT) (a b : ME) : ME := fun ρ h => (t ρ h).bind fun k h1 => if k then a ρ h1 else b ρ h1
def midx (a b : ME) : ME := fun ρ h => (a ρ h).bind fun x h1 => (b ρ h1).bind fun y h2 => idxD x y h2
/-- a part of a slice -/
abbrev MO := Ev → Hh → Res (Option Int)
def mo0 : MO := fun _ h => .ok none h
def mo1 (a : ME) : MO := fun ρ h => (a ρ h).bind fun x h1 =>
  match x with
  | .p (.int i) => .ok (some i) h1
  | _ => .stuck
def mcut (a : ME) (lo hi : MO) : ME := fun ρ h => (a ρ h).bind fun x h1 => (lo ρ h1).bind fun l h2 => (hi ρ h2).bind fun u h3 => cutD x l u h3
def mblt (b : Blt) (es : List ME) : ME := fun ρ h => (mes es ρ h).bind fun ds h1 => bltD b ds h1
def misi (t : Ty) (a : ME) : ME := fun ρ h => (a ρ h).bind fun x h1 => okP (.bl (isTy t x)) h1
def mmth (m : Mth) (o : ME) (es : List ME) : ME := fun ρ h => (o ρ h).bind fun x h1 => (mes es ρ h1).bind fun ds h2 => mthD m x ds h2
/-- range(..) as a value: its ends -/
abbrev MR := Ev → Hh → Res (Int × Int)
def mr1 (a : ME) : MR := fun ρ h => (a ρ h).bind fun x h1 =>
  match x with
  | .p (.int i) => .ok (0, i) h1
  | _ => .stuck
def mr2 (a b : ME) : MR := fun ρ h => (a ρ h).bind fun x h1 => (b ρ h1).bind fun y h2 =>
  match x, y with
  | .p (.int i), .p (.int j) => .ok (i, j) h2
  | _, _ => .stuck
def rgOk (a b : Int) : Bool := decide (-1000000000 ≤ a) && decide (a ≤ 1000000000) && decide (-1000000000 ≤ b) && decide (b ≤ 1000000000) && decide ((b - a).toNat ≤ szl)
def rgL (a b : Int) : List D := (List.range (b - a).toNat).map fun i => .p (.int (a + (i : Nat)))
def mlrg (r : MR) : ME := fun ρ h => (r ρ h).bind fun ab h1 => if rgOk ab.1 ab.2 then newL (rgL ab.1 ab.2) h1 else .stuck
/-- the functions: by number, from the arguments -/
abbrev Fns := Nat → List D → Hh → Res D
def mcall (Γ : Fns) (f : Nat) (es : List ME) : ME := fun ρ h => (mes es ρ h).bind fun ds h1 => Γ f ds h1

/-! ### what is walked: at turn j in the heap: none where it can't be said, some none at its end -/
structure Src where
  bound : Nat
  get : Nat → Hh → Option (Option D)
abbrev MI := Ev → Hh → Res Src
def srcL (xs : List D) : Src := ⟨xs.length, fun j _ => some xs[j]?⟩
def srcRef (n b : Nat) : Src := ⟨b, fun j h =>
  match seqAt h n with
  | some xs => some xs[j]?
  | none => none⟩
def srcR (a b : Int) : Src := ⟨(b - a).toNat, fun j _ => some (if j < (b - a).toNat then some (.p (.int (a + j))) else none)⟩
def mival (a : ME) : MI := fun ρ h => (a ρ h).bind fun x h1 =>
  match x with
  | .p (.tup xs) => .ok (srcL (xs.map .p)) h1
  | .ref n =>
    match seqAt h1 n with
    | some xs => .ok (srcRef n xs.length) h1
    | none => .stuck
  | _ => .stuck
def mirg (r : MR) : MI := fun ρ h => (r ρ h).bind fun ab h1 => if rgOk ab.1 ab.2 then .ok (srcR ab.1 ab.2) h1 else .stuck

/-! ### targets -/
abbrev MG := D → Ev → Hh → Res Ev
def gnm (i : Nat) : MG := fun d ρ h => if i < ρ.length then .ok (ρ.set i (some d)) h else .stuck
def gnms : List MG → List D → Ev → Hh → Res Ev
  | [], [], ρ, h => .ok ρ h
  | g :: gs, d :: ds, ρ, h => (g d ρ h).bind fun ρ1 h1 => gnms gs ds ρ1 h1
  | _, _, _, _ => .stuck
def gtup (gs : List MG) : MG := fun d ρ h =>
  match d with
  | .p (.tup xs) => gnms gs (xs.map .p) ρ h
  | .ref n =>
    match seqAt h n with
    | some xs => gnms gs xs ρ h
    | none => .stuck
  | _ => .stuck
def gsub (o i : ME) : MG := fun d ρ h => (o ρ h).bind fun x h1 => (i ρ h1).bind fun y h2 => (setD x y d h2).bind fun _ h3 => .ok ρ h3

/-! ### comprehensions -/
/-- a test's own lists are forgotten -/
def mgcT (t : MT) : MT := fun ρ h => (t ρ h).bind fun b h1 => .ok b (h1.take h.length)
def wipe (ρ : Ev) : List Nat → Ev
  | [] => ρ
  | v :: vs => (wipe ρ vs).set v none
def lcG (s : Src) (g : MG) (t : MT) (e : ME) (ρ : Ev) : Nat → Nat → List D → Hh → Res (List D)
  | 0, _, _, _ => .stuck
  | k + 1, j, acc, h =>
    match s.get j h with
    | none => .stuck
    | some none => .ok acc h
    | some (some x) =>
      match g x ρ h with
      | .ok ρ1 h1 =>
        match (mgcT t) ρ1 h1 with
        | .ok true h2 =>
          match (mgc e) ρ1 h2 with
          | .ok d h3 => if acc.length < szl then lcG s g t e ρ k (j + 1) (acc ++ [d]) h3 else .stuck
          | _ => .stuck
        | .ok false h2 => lcG s g t e ρ k (j + 1) acc h2
        | _ => .stuck
      | _ => .stuck
def myes : MT := fun _ h => .ok true h
def mlc (it : MI) (g : MG) (t : MT) (e : ME) (own : List Nat) : ME := fun ρ h => (it ρ h).bind fun s h1 =>
  (lcG s g t e (wipe ρ own) (s.bound + 1) 0 [] h1).bind fun acc h2 => .ok (.ref h2.length) (h2 ++ [.lst acc])

/-! ### statements -/
def sskip : MS := fun ρ h => .nx ρ h
def sseq (a b : MS) : MS := fun ρ h =>
  match a ρ h with
  | .nx ρ1 h1 => b ρ1 h1
  | o => o
def sseqs : List MS → MS
  | [] => sskip
  | a :: as => sseq a (sseqs as)
def sasg (g : MG) (e : ME) : MS := fun ρ h => (mgc e ρ h).out fun d h1 => (g d ρ h1).out fun ρ1 h2 => .nx ρ1 h2
def saug (sub : Bool) (i : Nat) (e : ME) : MS := fun ρ h =>
  match ρ[i]? with
  | some (some (.p (.int x))) => (mgc e ρ h).out fun d h1 =>
    match d with
    | .p (.int y) => .nx (ρ.set i (some (.p (.int (if sub then x - y else x + y))))) h1
    | _ => .stuck
  | _ => .stuck
def sexp (e : ME) : MS := fun ρ h => (mgc e ρ h).out fun _ h1 => .nx ρ h1
def sret (e : ME) : MS := fun ρ h => (mgc e ρ h).out fun d h1 => .rt d h1
def sretN : MS := fun _ h => .rt (.p .non) h
def sif (t : MT) (a b : MS) : MS := fun ρ h => (mgcT t ρ h).out fun k h1 => if k then a ρ h1 else b ρ h1
def whG (t : MT) (b : MS) : Nat → Ev → Hh → Out
  | 0, _, _ => .stuck
  | k + 1, ρ, h => (mgcT t ρ h).out fun c h1 =>
    if c then
      match b ρ h1 with
      | .nx ρ2 h2 => whG t b k ρ2 h2
      | .ct ρ2 h2 => whG t b k ρ2 h2
      | .bk ρ2 h2 => .nx ρ2 h2
      | o => o
    else .nx ρ h1
def wfuel : Nat := 1099511627776
def swhile (t : MT) (b : MS) : MS := fun ρ h => whG t b wfuel ρ h
def foG (s : Src) (g : MG) (b : MS) : Nat → Nat → Ev → Hh → Out
  | 0, _, _, _ => .stuck
  | k + 1, j, ρ, h =>
    match s.get j h with
    | none => .stuck
    | some none => .nx ρ h
    | some (some x) => (g x ρ h).out fun ρ1 h1 =>
      match b ρ1 h1 with
      | .nx ρ2 h2 => foG s g b k (j + 1) ρ2 h2
      | .ct ρ2 h2 => foG s g b k (j + 1) ρ2 h2
      | .bk ρ2 h2 => .nx ρ2 h2
      | o => o
/-- behind the loop its own lists are forgotten where no name leads to them -/
def gcO (n : Nat) : Out → Out
  | .nx ρ h => .nx ρ (gce n ρ h)
  | o => o
def sfor (it : MI) (g : MG) (b : MS) : MS := fun ρ h => gcO h.length ((it ρ h).out fun s h1 => foG s g b (s.bound + 1) 0 ρ h1)
def sbrk : MS := fun ρ h => .bk ρ h
def scnt : MS := fun ρ h => .ct ρ h

/-! ### functions -/
structure FnD where
  pars : Nat
  names : Nat
  body : Fns → MS
def startE (n : Nat) (ds : List D) : Ev := ds.map some ++ List.replicate (n - ds.length) none
def endR (n : Nat) : Out → Res D
  | .nx _ h => .ok (.p .non) (h.take n)
  | .rt d h => gcv n d h
  | .exc x h => .exc x h
  | _ => .stuck
/-- a function by its body -/
def fnG (n N : Nat) (body : MS) : List D → Hh → Res D := fun ds h => if ds.length = n then endR h.length (body (startE N ds) h) else .stuck
def runF (fs : List FnD) : Nat → Fns
  | 0 => fun _ _ _ => .stuck
  | k + 1 => fun f ds h =>
    match fs[f]? with
    | some fd => if ds.length = fd.pars then endR h.length (fd.body (runF fs k) (startE fd.names ds) h) else .stuck
    | none => .stuck
/-- math.gcd, as a def of two names -/
def gcdS : MS := fun ρ h =>
  match ρ with
  | [some (.p (.int a)), some (.p (.int b))] => .rt (.p (.int ((Nat.gcd a.natAbs b.natAbs : Nat) : Int))) h
  | _ => .stuck
end MP
end

section
set_option autoImplicit false
set_option linter.all false
set_option Elab.async false
set_option maxRecDepth 100000
set_option maxHeartbeats 4000000
/-! MPSnd1: how the clean heap stands in the abstract heap of the layer; values and operators. -/
namespace MP
open PySem PySem.Spec PyProof.Rows L2

theorem Res.bind_ok {α β : Type} {r : Res α} {k : α → Hh → Res β} {b : β} {h' : Hh} (e : r.bind k = .ok b h') : ∃ a h1, r = .ok a h1 ∧ k a h1 = .ok b h' := by
  cases r with
  | ok a h => exact ⟨a, h, rfl, e⟩
  | exc x h => cases e
  | stuck => cases e

mutual
inductive RP (K : PySem.W.Frag) (H : Hp) : V → P → Prop
  | non : RP K H .non .non
  | bl (b : Bool) : RP K H (.bl b) (.bl b)
  | int (i : Int) : RP K H (.int i) (.int i)
  | str (s : Str) (ok : PyData.strOk s = true) (z : s.length ≤ sizeLine) : RP K H (.str s) (.str s)
  | tup {a : Addr} {vs : List V} {ps : List P} (q : SqT K H a vs) (r : RPs K H vs ps) : RP K H (.ref a) (.tup ps)
inductive RPs (K : PySem.W.Frag) (H : Hp) : List V → List P → Prop
  | nil : RPs K H [] []
  | cons {v : V} {x : P} {vs : List V} {ps : List P} (h : RP K H v x) (t : RPs K H vs ps) : RPs K H (v :: vs) (x :: ps)
end
inductive RD (K : PySem.W.Frag) (ι : Nat → Addr) (n : Nat) (H : Hp) : V → D → Prop
  | p {v : V} {x : P} (h : RP K H v x) : RD K ι n H v (.p x)
  | ref {m : Nat} (h : m < n) : RD K ι n H (.ref (ι m)) (.ref m)
abbrev RDs (K : PySem.W.Frag) (ι : Nat → Addr) (n : Nat) (H : Hp) : List V → List D → Prop := Paired (RD K ι n H)
/-- a list that is read only: frozen, or an object of the module -/
def RoL (K : PySem.W.Frag) (H : Hp) (a : Addr) (vs : List V) : Prop :=
  (∃ o, H a = some (.frz o (.lst vs))) ∨ ∃ (o : Obj) (its : Array Value) (n : Nat), K.lookup a = some o ∧ o.cls = .type "list" ∧ o.dict = none ∧ o.data = .seq its n ∧ its.size ≤ sizeLine ∧ Vals vs its.toList
theorem RoL.sq {K : PySem.W.Frag} {H : Hp} {a : Addr} {vs : List V} (r : RoL K H a vs) : SqL K H a vs := by
  rcases r with ⟨o, e⟩ | r
  · exact .inl (.inr ⟨o, e⟩)
  · exact .inr r
def CellR (K : PySem.W.Frag) (ι : Nat → Addr) (i : Nat) (H : Hp) (a : Addr) : Cell → Prop
  | .lst ds => ∃ vs, H a = some (.lst vs) ∧ RDs K ι i H vs ds
  | .rol ds => ∃ vs, RoL K H a vs ∧ RDs K ι i H vs ds
structure Rp (K : PySem.W.Frag) (ι : Nat → Addr) (h : Hh) (H : Hp) : Prop where
  inj : ∀ i j ds es, h[i]? = some (.lst ds) → h[j]? = some (.lst es) → ι i = ι j → i = j
  cell : ∀ i c, h[i]? = some c → CellR K ι i H (ι i) c
structure Lat (K : PySem.W.Frag) (ι : Nat → Addr) (n : Nat) (H : Hp) (ι' : Nat → Addr) (n' : Nat) (H' : Hp) : Prop where
  len : n ≤ n'
  agree : ∀ i, i < n → ι' i = ι i
  tup : ∀ a vs, SqT K H a vs → SqT K H' a vs

section
variable {K : PySem.W.Frag} {ι ι' ι'' : Nat → Addr} {n n' n'' : Nat} {H H' H'' : Hp} {h h' : Hh}
theorem Lat.refl : Lat K ι n H ι n H := ⟨Nat.le_refl _, fun _ _ => rfl, fun _ _ q => q⟩
theorem Lat.trans (a : Lat K ι n H ι' n' H') (b : Lat K ι' n' H' ι'' n'' H'') : Lat K ι n H ι'' n'' H'' :=
  ⟨Nat.le_trans a.len b.len, fun i hi => (b.agree i (Nat.lt_of_lt_of_le hi a.len)).trans (a.agree i hi), fun c vs q => b.tup c vs (a.tup c vs q)⟩
mutual
theorem RP.mono (t : ∀ a vs, SqT K H a vs → SqT K H' a vs) : ∀ {v : V} {x : P}, RP K H v x → RP K H' v x
  | _, _, .non => .non
  | _, _, .bl b => .bl b
  | _, _, .int i => .int i
  | _, _, .str s ok z => .str s ok z
  | _, _, .tup q r => .tup (t _ _ q) (RPs.mono t r)
theorem RPs.mono (t : ∀ a vs, SqT K H a vs → SqT K H' a vs) : ∀ {vs : List V} {ps : List P}, RPs K H vs ps → RPs K H' vs ps
  | _, _, .nil => .nil
  | _, _, .cons h r => .cons (RP.mono t h) (RPs.mono t r)
end
theorem RD.mono0 (l : Lat K ι n H ι' n' H') {v : V} {d : D} (r : RD K ι n H v d) : RD K ι' n' H' v d := by
  cases r with
  | p h => exact .p (h.mono l.tup)
  | ref hm =>
    rw [← l.agree _ hm]
    exact .ref (Nat.lt_of_lt_of_le hm l.len)
theorem RDs.mono0 (l : Lat K ι n H ι' n' H') {vs : List V} {ds : List D} (r : RDs K ι n H vs ds) : RDs K ι' n' H' vs ds := Paired.mapP r fun _ _ x => x.mono0 l
theorem RD.up (hn : n ≤ n') {v : V} {d : D} (r : RD K ι n H v d) : RD K ι n' H v d := r.mono0 ⟨hn, fun _ _ => rfl, fun _ _ q => q⟩
theorem RDs.up (hn : n ≤ n') {vs : List V} {ds : List D} (r : RDs K ι n H vs ds) : RDs K ι n' H vs ds := RDs.mono0 ⟨hn, fun _ _ => rfl, fun _ _ q => q⟩ r
theorem RD.low {v : V} {d : D} (r : RD K ι n' H v d) (hb : d.below n = true) : RD K ι n H v d := by
  cases r with
  | p h => exact .p h
  | ref hm => exact .ref (of_decide_eq_true hb)

end
/-- from one state to a later one: what is known stays; lists that are not in the clean heap stay as they are -/
structure Later (K : PySem.W.Frag) (ι : Nat → Addr) (h : Hh) (H : Hp) (ι' : Nat → Addr) (h' : Hh) (H' : Hp) : Prop where
  lat : Lat K ι h.length H ι' h'.length H'
  fr : ∀ a vs, H a = some (.lst vs) → (∀ (i : Nat) (ds : List D), h[i]? = some (.lst ds) → ι i ≠ a) → H' a = some (.lst vs)
  new : ∀ (i : Nat) (ds : List D), h.length ≤ i → h'[i]? = some (.lst ds) → H (ι' i) = none
  kind : ∀ (i : Nat) (ds : List D), i < h.length → h'[i]? = some (.lst ds) → ∃ es, h[i]? = some (.lst es)
  live : ∀ a, H' a = none → H a = none
section
variable {K : PySem.W.Frag} {ι ι' ι'' : Nat → Addr} {n n' n'' : Nat} {H H' H'' : Hp} {h h' h'' : Hh}
theorem Later.len (l : Later K ι h H ι' h' H') : h.length ≤ h'.length := l.lat.len
theorem Later.agree (l : Later K ι h H ι' h' H') : ∀ i, i < h.length → ι' i = ι i := l.lat.agree
theorem Later.tup (l : Later K ι h H ι' h' H') : ∀ a vs, SqT K H a vs → SqT K H' a vs := l.lat.tup
theorem get_lt {h : Hh} {c : Cell} {i : Nat} (e : h[i]? = some c) : i < h.length := (List.getElem?_eq_some_iff.mp e).1
theorem Later.refl : Later K ι h H ι h H := ⟨Lat.refl, fun _ _ e _ => e, fun i ds hi e => absurd (get_lt e) (by omega), fun i ds _ e => ⟨ds, e⟩, fun _ e => e⟩
theorem Later.trans (a : Later K ι h H ι' h' H') (b : Later K ι' h' H' ι'' h'' H'') : Later K ι h H ι'' h'' H'' := by
  refine ⟨a.lat.trans b.lat, fun p vs e ne => b.fr p vs (a.fr p vs e ne) fun i ds q => ?_, fun i ds hi e => ?_, fun i ds hi e => ?_, fun p e => a.live p (b.live p e)⟩
  · by_cases hi : i < h.length
    · obtain ⟨es, q'⟩ := a.kind i ds hi q
      rw [a.agree i hi]
      exact ne i es q'
    · intro z
      have := a.new i ds (by omega) q
      rw [z, e] at this
      cases this
  · by_cases hi' : i < h'.length
    · obtain ⟨es, q⟩ := b.kind i ds hi' e
      rw [b.agree i hi']
      exact a.new i es hi q
    · exact a.live _ (b.new i ds (by omega) e)
  · obtain ⟨es, q⟩ := b.kind i ds (Nat.lt_of_lt_of_le hi a.len) e
    exact a.kind i es hi q
theorem RD.mono (l : Later K ι h H ι' h' H') {v : V} {d : D} (r : RD K ι h.length H v d) : RD K ι' h'.length H' v d := r.mono0 l.lat
theorem RDs.mono (l : Later K ι h H ι' h' H') {vs : List V} {ds : List D} (r : RDs K ι h.length H vs ds) : RDs K ι' h'.length H' vs ds := RDs.mono0 l.lat r
end

section
variable {K : PySem.W.Frag} {ι ι' ι'' : Nat → Addr} {n n' n'' : Nat} {H H' H'' : Hp} {h h' h'' : Hh}
/-! ### the heap grows, is written -/
theorem sqT_alloc {p : Addr} {o : HO} (hp : H p = none) : ∀ a vs, SqT K H a vs → SqT K (upd H p o) a vs := fun a vs q => by
  have ne : ∀ u, H a = some u → a ≠ p := fun u e z => by rw [z, hp] at e; cases e
  rcases q with (q | ⟨ob, q⟩) | q
  · exact .inl (.inl (by rw [upd_ne (ne _ q)]; exact q))
  · exact .inl (.inr ⟨ob, by rw [upd_ne (ne _ q)]; exact q⟩)
  · exact .inr q
theorem roL_alloc {p : Addr} {o : HO} (hp : H p = none) : ∀ a vs, RoL K H a vs → RoL K (upd H p o) a vs := fun a vs q => by
  rcases q with ⟨ob, q⟩ | q
  · exact .inl ⟨ob, by rw [upd_ne (fun z => by rw [z, hp] at q; cases q)]; exact q⟩
  · exact .inr q
theorem sqT_write {p : Addr} {ws : List V} {o : HO} (hp : H p = some (.lst ws)) : ∀ a vs, SqT K H a vs → SqT K (upd H p o) a vs := fun a vs q => by
  rcases q with (q | ⟨ob, q⟩) | q
  · exact .inl (.inl (by rw [upd_ne (fun z => by rw [z, hp] at q; cases q)]; exact q))
  · exact .inl (.inr ⟨ob, by rw [upd_ne (fun z => by rw [z, hp] at q; cases q)]; exact q⟩)
  · exact .inr q
theorem roL_write {p : Addr} {ws : List V} {o : HO} (hp : H p = some (.lst ws)) : ∀ a vs, RoL K H a vs → RoL K (upd H p o) a vs := fun a vs q => by
  rcases q with ⟨ob, q⟩ | q
  · exact .inl ⟨ob, by rw [upd_ne (fun z => by rw [z, hp] at q; cases q)]; exact q⟩
  · exact .inr q
theorem Lat.alloc {p : Addr} {o : HO} (hp : H p = none) : Lat K ι n H ι n (upd H p o) := ⟨Nat.le_refl _, fun _ _ => rfl, sqT_alloc hp⟩
/-- cells whose addresses and what they lean on stay -/
theorem CellR.alloc {i : Nat} {a p : Addr} {o : HO} {c : Cell} (hp : H p = none) (r : CellR K ι i H a c) : CellR K ι i (upd H p o) a c := by
  have l : Lat K ι i H ι i (upd H p o) := Lat.alloc hp
  cases c with
  | lst ds =>
    obtain ⟨vs, e, r⟩ := r
    exact ⟨vs, by rw [upd_ne (fun z => by rw [z, hp] at e; cases e)]; exact e, RDs.mono0 l r⟩
  | rol ds =>
    obtain ⟨vs, e, r⟩ := r
    exact ⟨vs, roL_alloc hp _ _ e, RDs.mono0 l r⟩
theorem Rp.alloc {p : Addr} {o : HO} (R : Rp K ι h H) (hp : H p = none) : Rp K ι h (upd H p o) := ⟨R.inj, fun i c e => (R.cell i c e).alloc hp⟩

/-- a new list -/
def put (ι : Nat → Addr) (n : Nat) (p : Addr) : Nat → Addr := fun i => if i = n then p else ι i
theorem put_same {p : Addr} : put ι n p n = p := by unfold put; rw [if_pos rfl]
theorem put_ne {p : Addr} {i : Nat} (h : i ≠ n) : put ι n p i = ι i := by unfold put; rw [if_neg h]
theorem CellR.rename {i : Nat} {a : Addr} {c : Cell} (ag : ∀ j, j < i → ι' j = ι j) (r : CellR K ι i H a c) : CellR K ι' i H a c := by
  have l : Lat K ι i H ι' i H := ⟨Nat.le_refl _, ag, fun _ _ q => q⟩
  cases c with
  | lst ds => obtain ⟨vs, e, r⟩ := r; exact ⟨vs, e, RDs.mono0 l r⟩
  | rol ds => obtain ⟨vs, e, r⟩ := r; exact ⟨vs, e, RDs.mono0 l r⟩
theorem get_push {h : Hh} {c d : Cell} {i : Nat} (e : (h ++ [c])[i]? = some d) : (i < h.length ∧ h[i]? = some d) ∨ (i = h.length ∧ d = c) := by
  by_cases hi : i < h.length
  · rw [List.getElem?_append_left hi] at e
    exact .inl ⟨hi, e⟩
  · rw [List.getElem?_append_right (by omega)] at e
    have hk : i - h.length = 0 := by
      cases q : i - h.length with
      | zero => rfl
      | succ k => rw [q] at e; simp at e
    rw [hk] at e
    simp at e
    exact .inr ⟨by omega, e.symm⟩
theorem Rp.newList {p : Addr} {vs : List V} {ds : List D} (R : Rp K ι h H) (hp : H p = none) (r : RDs K ι h.length H vs ds) : Rp K (put ι h.length p) (h ++ [.lst ds]) (upd H p (.lst vs)) := by
  have ag : ∀ i, i < h.length → put ι h.length p i = ι i := fun i hi => put_ne (Nat.ne_of_lt hi)
  have nw : ∀ i ds, i < h.length → h[i]? = some (.lst ds) → ι i ≠ p := fun i ds hi e z => by
    obtain ⟨ws, q, _⟩ := R.cell i _ e
    rw [z, hp] at q; cases q
  refine ⟨fun i j as bs e1 e2 e => ?_, fun i c e => ?_⟩
  · rcases get_push e1 with ⟨h1, q1⟩ | ⟨h1, q1⟩ <;> rcases get_push e2 with ⟨h2, q2⟩ | ⟨h2, q2⟩
    · rw [ag i h1, ag j h2] at e
      exact R.inj i j _ _ q1 q2 e
    · subst h2
      rw [ag i h1, put_same] at e
      exact absurd e (nw i _ h1 q1)
    · subst h1
      rw [ag j h2, put_same] at e
      exact absurd e.symm (nw j _ h2 q2)
    · rw [h1, h2]
  · rcases get_push e with ⟨h1, q1⟩ | ⟨h1, q1⟩
    · rw [ag i h1]
      exact ((R.cell i c q1).alloc hp).rename fun j hj => ag j (Nat.lt_trans hj h1)
    · subst h1 q1
      rw [put_same]
      refine ⟨vs, upd_same, RDs.mono0 ⟨Nat.le_refl _, ag, sqT_alloc hp⟩ r⟩
theorem Later.alloc {p : Addr} {o : HO} (hp : H p = none) : Later K ι h H ι h (upd H p o) := by
  refine ⟨Lat.alloc hp, fun a vs e _ => ?_, fun i ds hi e => absurd (get_lt e) (by omega), fun i ds _ e => ⟨ds, e⟩, fun a e => ?_⟩
  · rw [upd_ne (ne_of_none e hp)]; exact e
  · by_cases ha : a = p
    · rw [ha]; exact hp
    · rw [upd_ne ha] at e; exact e
theorem Later.newList {p : Addr} {ds : List D} {vs : List V} (hp : H p = none) : Later K ι h H (put ι h.length p) (h ++ [.lst ds]) (upd H p (.lst vs)) := by
  refine ⟨⟨by simp, fun i hi => put_ne (Nat.ne_of_lt hi), sqT_alloc hp⟩, fun a vs e _ => ?_, fun i es hi e => ?_, fun i es hi e => ?_, fun a e => ?_⟩
  · rw [upd_ne (ne_of_none e hp)]; exact e
  · rcases get_push e with ⟨h1, q⟩ | ⟨h1, q⟩
    · omega
    · rw [h1, put_same]; exact hp
  · rcases get_push e with ⟨h1, q⟩ | ⟨h1, q⟩
    · exact ⟨es, q⟩
    · omega
  · by_cases ha : a = p
    · rw [ha]; exact hp
    · rw [upd_ne ha] at e; exact e
/-- a list is written -/
theorem Rp.write {m : Nat} {ws : List D} {vs : List V} {ds : List D} (R : Rp K ι h H) (hm : h[m]? = some (.lst ws)) (r : RDs K ι m H vs ds) : Rp K ι (h.set m (.lst ds)) (upd H (ι m) (.lst vs)) ∧ Later K ι h H ι (h.set m (.lst ds)) (upd H (ι m) (.lst vs)) := by
  obtain ⟨us, hH, _⟩ := R.cell m _ hm
  have hlt := get_lt hm
  have l : ∀ n, Lat K ι n H ι n (upd H (ι m) (.lst vs)) := fun n => ⟨Nat.le_refl _, fun _ _ => rfl, sqT_write hH⟩
  refine ⟨⟨fun i j as bs e1 e2 e => ?_, fun i c e => ?_⟩, ?_⟩
  · have g : ∀ (k : Nat) (xs : List D), (h.set m (Cell.lst ds))[k]? = some (Cell.lst xs) → ∃ ys, h[k]? = some (Cell.lst ys) := fun k xs q => by
      by_cases hk : m = k
      · subst hk; exact ⟨_, hm⟩
      · rw [List.getElem?_set_ne hk] at q; exact ⟨_, q⟩
    obtain ⟨_, q1⟩ := g i _ e1
    obtain ⟨_, q2⟩ := g j _ e2
    exact R.inj i j _ _ q1 q2 e
  · by_cases hi : m = i
    · subst hi
      rw [List.getElem?_set_self hlt] at e
      cases e
      exact ⟨vs, upd_same, RDs.mono0 (l _) r⟩
    · rw [List.getElem?_set_ne hi] at e
      have q := R.cell i c e
      cases c with
      | lst xs =>
        obtain ⟨vs', e1, r1⟩ := q
        refine ⟨vs', ?_, RDs.mono0 (l _) r1⟩
        rw [upd_ne (fun z => hi (R.inj i m _ _ e hm z).symm)]
        exact e1
      | rol xs =>
        obtain ⟨vs', e1, r1⟩ := q
        exact ⟨vs', roL_write hH _ _ e1, RDs.mono0 (l _) r1⟩
  · refine ⟨by rw [List.length_set]; exact l _, fun a us e ne => ?_, fun i es hi e => ?_, fun i es hi e => ?_, fun a e => ?_⟩
    · rw [upd_ne (ne m _ hm).symm]; exact e
    · have := get_lt e
      rw [List.length_set] at this
      omega
    · by_cases hk : m = i
      · subst hk; exact ⟨_, hm⟩
      · rw [List.getElem?_set_ne hk] at e; exact ⟨_, e⟩
    · by_cases ha : a = ι m
      · rw [ha, upd_same] at e; cases e
      · rw [upd_ne ha] at e; exact e

/-! ### the heap is cut -/
theorem Rp.take (R : Rp K ι h H) (m : Nat) : Rp K ι (h.take m) H := by
  have g : ∀ (i : Nat) (c : Cell), (h.take m)[i]? = some c → h[i]? = some c := fun i c e => by
    by_cases hi : i < m
    · rw [List.getElem?_take_of_lt hi] at e; exact e
    · have := get_lt e
      rw [List.length_take] at this
      omega
  exact ⟨fun i j as bs e1 e2 e => R.inj i j _ _ (g _ _ e1) (g _ _ e2) e, fun i c e => R.cell i c (g i c e)⟩
theorem RDs.low {m : Nat} : ∀ {vs : List V} {ds : List D}, RDs K ι n H vs ds → ds.all (D.below m) = true → RDs K ι m H vs ds
  | _, _, .nil, _ => .nil
  | _, _, .cons r t, e => by
    rw [List.all_cons, Bool.and_eq_true] at e
    exact .cons (r.low e.1) (RDs.low t e.2)
theorem gcv_ok {h0 : Hh} {m : Nat} (hm : h0.length = m) {d d' : D} {v : V} (R : Rp K ι' h H') (r : RD K ι' h.length H' v d) (L : Later K ι h0 H ι' h H') (e : gcv m d h = .ok d' h') :
    ∃ ι2, Later K ι h0 H ι2 h' H' ∧ Rp K ι2 h' H' ∧ RD K ι2 h'.length H' v d' := by
  have hml := L.len
  have gt : ∀ (i : Nat) (c : Cell), i < m → (h.take m)[i]? = some c → h[i]? = some c := fun i c hi e => by
    rw [List.getElem?_take_of_lt hi] at e; exact e
  unfold gcv at e
  split at e
  · rename_i hb
    cases e
    have hl : (h.take m).length = m := by rw [List.length_take]; omega
    refine ⟨ι', ⟨⟨by omega, L.agree, L.tup⟩, L.fr, fun i ds hi e => ?_, fun i ds hi e => L.kind i ds hi (gt i _ (by omega) e), L.live⟩, R.take m, by rw [hl]; exact r.low hb⟩
    have := get_lt e
    omega
  · rename_i hb
    split at e
    · cases e
      exact ⟨ι', L, R, r⟩
    · rename_i k
      split at e
      · rename_i c hc
        split at e
        · rename_i hcb
          cases e
          have hk : m ≤ k := by
            simp only [D.below, decide_eq_true_eq] at hb
            omega
          have hl : (h.take m).length = m := by rw [List.length_take]; omega
          have hl2 : (h.take m ++ [c]).length = m + 1 := by simp [hl]
          have ag : ∀ i, i < m → put ι' m (ι' k) i = ι' i := fun i hi => put_ne (Nat.ne_of_lt hi)
          have hv : v = .ref (ι' k) := by cases r; rfl
          have g : ∀ (i : Nat) (as : List D), (h.take m ++ [c])[i]? = some (Cell.lst as) → (i < m ∧ h[i]? = some (Cell.lst as)) ∨ (i = m ∧ h[k]? = some (Cell.lst as)) := fun i as q => by
            rcases get_push q with ⟨q1, q2⟩ | ⟨q1, q2⟩
            · rw [hl] at q1
              rw [List.getElem?_take_of_lt q1] at q2
              exact .inl ⟨q1, q2⟩
            · rw [hl] at q1
              exact .inr ⟨q1, by rw [q2]; exact hc⟩
          refine ⟨put ι' m (ι' k), ⟨⟨by omega, fun i hi => (ag i (by omega)).trans (L.agree i hi), L.tup⟩, L.fr, fun i ds hi e => ?_, fun i ds hi e => ?_, L.live⟩, ⟨fun i j as bs e1 e2 e => ?_, fun i c' e1 => ?_⟩, ?_⟩
          · rcases g i _ e with ⟨h1, q1⟩ | ⟨h1, q1⟩
            · omega
            · rw [h1, put_same]
              exact L.new k ds (by omega) q1
          · rcases g i _ e with ⟨h1, q1⟩ | ⟨h1, q1⟩
            · exact L.kind i ds hi q1
            · omega
          · rcases g i _ e1 with ⟨h1, q1⟩ | ⟨h1, q1⟩ <;> rcases g j _ e2 with ⟨h2, q2⟩ | ⟨h2, q2⟩
            · rw [ag i h1, ag j h2] at e
              exact R.inj i j _ _ q1 q2 e
            · subst h2
              rw [ag i h1, put_same] at e
              have := R.inj i k _ _ q1 q2 e
              omega
            · subst h1
              rw [ag j h2, put_same] at e
              have := R.inj k j _ _ q1 q2 e
              omega
            · rw [h1, h2]
          · rcases get_push e1 with ⟨q1, q2⟩ | ⟨q1, q2⟩
            · rw [hl] at q1
              rw [List.getElem?_take_of_lt q1] at q2
              rw [ag i q1]
              exact (R.cell i c' q2).rename fun j hj => ag j (Nat.lt_trans hj q1)
            · rw [hl] at q1
              subst q1 q2
              rw [put_same]
              have q := R.cell k _ hc
              have l : Lat K ι' i H' (put ι' i (ι' k)) i H' := ⟨Nat.le_refl _, ag, fun _ _ q => q⟩
              cases c' with
              | lst ds =>
                obtain ⟨vs, q1, q2⟩ := q
                exact ⟨vs, q1, RDs.mono0 l (RDs.low q2 hcb)⟩
              | rol ds =>
                obtain ⟨vs, q1, q2⟩ := q
                exact ⟨vs, q1, RDs.mono0 l (RDs.low q2 hcb)⟩
          · rw [hl2, hv]
            have z : RD K (put ι' m (ι' k)) (m + 1) H' (.ref (put ι' m (ι' k) m)) (.ref m) := .ref (Nat.lt_succ_self m)
            rw [put_same] at z
            exact z
        · cases e
          exact ⟨ι', L, R, r⟩
      · cases e
        exact ⟨ι', L, R, r⟩
/-- the heap behind a test, a loop -/
theorem Later.take {h0 : Hh} {m : Nat} (hm : h0.length = m) (L : Later K ι h0 H ι' h H') : Later K ι h0 H ι' (h.take m) H' := by
  have hml := L.len
  have hl : (h.take m).length = m := by rw [List.length_take]; omega
  refine ⟨⟨by omega, L.agree, L.tup⟩, L.fr, fun i ds hi e => ?_, fun i ds hi e => L.kind i ds hi ?_, L.live⟩
  · have := get_lt e
    omega
  · rw [List.getElem?_take_of_lt (by omega)] at e; exact e
end
end MP
end

section
set_option autoImplicit false
set_option linter.all false
set_option Elab.async false
set_option maxRecDepth 100000
set_option maxHeartbeats 4000000
/-! MPSnd2: the operators by values. -/
namespace MP
open PySem PySem.Spec PyProof.Rows L2

def OkV (K : PySem.W.Frag) (ι : Nat → Addr) (h : Hh) (H : Hp) (d : D) (h' : Hh) (Q : VK) : Prop :=
  ∀ v ι' H', Later K ι h H ι' h' H' → Rp K ι' h' H' → RD K ι' h'.length H' v d → Q v H'
def OkB (K : PySem.W.Frag) (ι : Nat → Addr) (h : Hh) (H : Hp) (b : Bool) (h' : Hh) (Q : Bool → Hp → Prop) : Prop :=
  ∀ ι' H', Later K ι h H ι' h' H' → Rp K ι' h' H' → Q b H'
section
variable {K : PySem.W.Frag} {ι ι' ι1 : Nat → Addr} {n n' n1 : Nat} {H H' H1 : Hp} {h h' h1 : Hh}
theorem OkV.after {d : D} {Q : VK} (ok : OkV K ι h H d h' Q) (l : Later K ι h H ι1 h1 H1) : OkV K ι1 h1 H1 d h' Q := fun v ι' H' l' => ok v ι' H' (l.trans l')
theorem OkB.after {b : Bool} {Q : Bool → Hp → Prop} (ok : OkB K ι h H b h' Q) (l : Later K ι h H ι1 h1 H1) : OkB K ι1 h1 H1 b h' Q := fun ι' H' l' => ok ι' H' (l.trans l')
/-- the answer is data that stands already -/
theorem OkV.here {x : P} {v : V} {Q : VK} (ok : OkV K ι h H (.p x) h Q) (R : Rp K ι h H) (r : RP K H v x) : Q v H := ok v ι H Later.refl R (.p r)
theorem OkB.here {b : Bool} {Q : Bool → Hp → Prop} (ok : OkB K ι h H b h Q) (R : Rp K ι h H) : Q b H := ok ι H Later.refl R
/-- the answer is a new tuple -/
theorem OkV.tup {ps : List P} {vs : List V} {p : Addr} {Q : VK} (ok : OkV K ι h H (.p (.tup ps)) h Q) (R : Rp K ι h H) (hp : H p = none) (r : RPs K H vs ps) : Q (.ref p) (upd H p (.tup vs)) :=
  ok _ ι _ (Later.alloc hp) (R.alloc hp) (.p (.tup (SqT.of upd_same) (r.mono (sqT_alloc hp))))
/-- the answer is a new list -/
theorem OkV.lst {ds : List D} {vs : List V} {p : Addr} {Q : VK} (ok : OkV K ι h H (.ref h.length) (h ++ [.lst ds]) Q) (R : Rp K ι h H) (hp : H p = none) (r : RDs K ι h.length H vs ds) : Q (.ref p) (upd H p (.lst vs)) := by
  have z : RD K (put ι h.length p) (h ++ [Cell.lst ds]).length (upd H p (.lst vs)) (.ref (put ι h.length p h.length)) (.ref h.length) := .ref (by simp)
  rw [put_same] at z
  exact ok _ _ _ (Later.newList hp) (R.newList hp r) z

/-! ### rows of data -/
theorem RPs.len : ∀ {vs : List V} {ps : List P}, RPs K H vs ps → vs.length = ps.length
  | _, _, .nil => rfl
  | _, _, .cons _ t => by simp [t.len]
theorem RPs.app : ∀ {vs ws : List V} {ps qs : List P}, RPs K H vs ps → RPs K H ws qs → RPs K H (vs ++ ws) (ps ++ qs)
  | _, _, _, _, .nil, s => s
  | _, _, _, _, .cons r t, s => .cons r (t.app s)
theorem RPs.rep {vs : List V} {ps : List P} (r : RPs K H vs ps) : ∀ k : Nat, RPs K H (List.replicate k vs).flatten (reps k ps)
  | 0 => .nil
  | k + 1 => by
    show RPs K H (vs ++ (List.replicate k vs).flatten) (ps ++ (List.replicate k ps).flatten)
    exact r.app (RPs.rep r k)
theorem RPs.take : ∀ {vs : List V} {ps : List P} (k : Nat), RPs K H vs ps → RPs K H (vs.take k) (ps.take k)
  | _, _, 0, _ => by simp only [List.take_zero]; exact .nil
  | _, _, _ + 1, .nil => .nil
  | _, _, k + 1, .cons r t => .cons r (t.take k)
theorem RPs.drop : ∀ {vs : List V} {ps : List P} (k : Nat), RPs K H vs ps → RPs K H (vs.drop k) (ps.drop k)
  | _, _, 0, r => r
  | _, _, _ + 1, .nil => .nil
  | _, _, k + 1, .cons _ t => t.drop k
theorem RPs.get : ∀ {vs : List V} {ps : List P} {k : Nat} {x : P}, RPs K H vs ps → ps[k]? = some x → ∃ v, vs[k]? = some v ∧ RP K H v x
  | _, _, _, _, .nil, e => by simp at e
  | _, _, 0, _, .cons r _, e => by simp at e; subst e; exact ⟨_, rfl, r⟩
  | _, _, k + 1, _, .cons _ t, e => by
    obtain ⟨v, h1, h2⟩ := RPs.get (k := k) t (by simpa using e)
    exact ⟨v, by simpa using h1, h2⟩
theorem RPs.rds : ∀ {vs : List V} {ps : List P}, RPs K H vs ps → RDs K ι n H vs (ps.map .p)
  | _, _, .nil => .nil
  | _, _, .cons r t => .cons (.p r) t.rds
theorem RDs.pures : ∀ {vs : List V} {ds : List D} {ps : List P}, RDs K ι n H vs ds → MP.pures ds = some ps → RPs K H vs ps
  | _, _, ps, .nil, e => by
    cases e; exact .nil
  | _, _, ps, .cons (b := d) r t, e => by
    cases d with
    | ref m => cases e
    | p x =>
      simp only [MP.pures, Option.map_eq_some_iff] at e
      obtain ⟨qs, e1, e2⟩ := e
      subst e2
      cases r with
      | p r => exact .cons r (RDs.pures t e1)
theorem RDs.len {vs : List V} {ds : List D} (r : RDs K ι n H vs ds) : vs.length = ds.length := Paired.length r
theorem RDs.app : ∀ {vs ws : List V} {ds es : List D}, RDs K ι n H vs ds → RDs K ι n H ws es → RDs K ι n H (vs ++ ws) (ds ++ es)
  | _, _, _, _, .nil, s => s
  | _, _, _, _, .cons r t, s => .cons r (RDs.app t s)
theorem RDs.rep {vs : List V} {ds : List D} (r : RDs K ι n H vs ds) : ∀ k : Nat, RDs K ι n H (List.replicate k vs).flatten (reps k ds)
  | 0 => .nil
  | k + 1 => by
    show RDs K ι n H (vs ++ (List.replicate k vs).flatten) (ds ++ (List.replicate k ds).flatten)
    exact RDs.app r (RDs.rep r k)
theorem RDs.take : ∀ {vs : List V} {ds : List D} (k : Nat), RDs K ι n H vs ds → RDs K ι n H (vs.take k) (ds.take k)
  | _, _, 0, _ => by simp only [List.take_zero]; exact .nil
  | _, _, _ + 1, .nil => .nil
  | _, _, k + 1, .cons r t => .cons r (RDs.take k t)
theorem RDs.drop : ∀ {vs : List V} {ds : List D} (k : Nat), RDs K ι n H vs ds → RDs K ι n H (vs.drop k) (ds.drop k)
  | _, _, 0, r => r
  | _, _, _ + 1, .nil => .nil
  | _, _, k + 1, .cons _ t => RDs.drop k t
theorem RDs.get : ∀ {vs : List V} {ds : List D} {k : Nat} {x : D}, RDs K ι n H vs ds → ds[k]? = some x → ∃ v, vs[k]? = some v ∧ RD K ι n H v x
  | _, _, _, _, .nil, e => by simp at e
  | _, _, 0, _, .cons r _, e => by simp at e; subst e; exact ⟨_, rfl, r⟩
  | _, _, k + 1, _, .cons _ t, e => by
    obtain ⟨v, h1, h2⟩ := RDs.get (k := k) t (by simpa using e)
    exact ⟨v, by simpa using h1, h2⟩
theorem RDs.set {x : D} {v : V} (r : RD K ι n H v x) : ∀ {vs : List V} {ds : List D} (k : Nat), RDs K ι n H vs ds → RDs K ι n H (vs.set k v) (ds.set k x)
  | _, _, _, .nil => .nil
  | _, _, 0, .cons _ t => .cons r t
  | _, _, k + 1, .cons q t => .cons q (RDs.set r k t)
theorem RDs.erase : ∀ {vs : List V} {ds : List D} (k : Nat), RDs K ι n H vs ds → RDs K ι n H (vs.eraseIdx k) (ds.eraseIdx k)
  | _, _, _, .nil => .nil
  | _, _, 0, .cons _ t => t
  | _, _, k + 1, .cons q t => .cons q (RDs.erase k t)
theorem RDs.dropLast : ∀ {vs : List V} {ds : List D}, RDs K ι n H vs ds → RDs K ι n H vs.dropLast ds.dropLast
  | _, _, .nil => .nil
  | _, _, .cons q .nil => .nil
  | _, _, .cons q (.cons q' t) => .cons q (RDs.dropLast (.cons q' t))
theorem RDs.snoc {x : D} {v : V} {vs : List V} {ds : List D} (r : RDs K ι n H vs ds) (q : RD K ι n H v x) : RDs K ι n H (vs ++ [v]) (ds ++ [x]) := RDs.app r (.cons q .nil)

/-! ### lists by their places -/
theorem Rp.seq (R : Rp K ι h H) {m : Nat} {ds : List D} (e : seqAt h m = some ds) : m < h.length ∧ ∃ vs, SqL K H (ι m) vs ∧ RDs K ι m H vs ds := by
  unfold seqAt at e
  cases q : h[m]? with
  | none => rw [q] at e; cases e
  | some c =>
    rw [q] at e
    refine ⟨get_lt q, ?_⟩
    have r := R.cell m c q
    cases c with
    | lst xs =>
      cases e
      obtain ⟨vs, e1, r1⟩ := r
      exact ⟨vs, SqL.of e1, r1⟩
    | rol xs =>
      cases e
      obtain ⟨vs, e1, r1⟩ := r
      exact ⟨vs, e1.sq, r1⟩
theorem lstAt_get {m : Nat} {ds : List D} (e : lstAt h m = some ds) : h[m]? = some (.lst ds) := by
  unfold lstAt at e
  split at e
  · rename_i xs q
    cases e; exact q
  · cases e
theorem Rp.lst (R : Rp K ι h H) {m : Nat} {ds : List D} (e : lstAt h m = some ds) : m < h.length ∧ ∃ vs, H (ι m) = some (.lst vs) ∧ RDs K ι m H vs ds := by
  have q := lstAt_get e
  exact ⟨get_lt q, R.cell m _ q⟩
end

/-! ### operators -/
section
variable {X : Cx} {k : Nat}
def OpS (X : Cx) (f : Value → Value → Sem Value) (g : D → D → Hh → Res D) : Prop :=
  ∃ r : R2, OpR X f r ∧ ∀ ι h H x y a b, Rp X.K ι h H → RD X.K ι h.length H x a → RD X.K ι h.length H y b → ∀ d h', g a b h = .ok d h' → ∀ Q, OkV X.K ι h H d h' Q → r x y H Q
def OpB (X : Cx) (f : Value → Value → Sem Value) (g : D → D → Hh → Res Bool) : Prop :=
  ∃ r : R2, OpR X f r ∧ ∀ ι h H x y a b, Rp X.K ι h H → RD X.K ι h.length H x a → RD X.K ι h.length H y b → ∀ d h', g a b h = .ok d h' → ∀ Q : VK, OkB X.K ι h H d h' (fun c H' => Q (.bl c) H') → r x y H Q
theorem OpR.or {f : Value → Value → Sem Value} {r r' : R2} (h : OpR X f r) (h' : OpR X f r') : OpR X f (fun x y H Q => r x y H Q ∨ r' x y H Q) := by
  intro pins s σ H x y v u Q I rx ry q
  rcases q with q | q
  · exact h pins s σ H x y v u Q I rx ry q
  · exact h' pins s σ H x y v u Q I rx ry q
theorem ops_add : OpS X (binaryOp .Add) addD := by
  refine ⟨_, OpR.or op_add (OpR.or op_catA op_cat), fun ι h H x y a b R ra rb d h' e Q ok => ?_⟩
  unfold addD at e
  split at e
  · cases e
    cases ra with | p ra => cases rb with | p rb => cases ra; cases rb; exact .inl ⟨_, _, rfl, rfl, ok.here R (.int _)⟩
  · split at e
    · rename_i hz
      cases e
      cases ra with | p ra => cases rb with | p rb =>
      cases ra with | tup q1 r1 => cases rb with | tup q2 r2 =>
      refine .inr (.inl ⟨_, _, _, _, rfl, rfl, q1, q2, by rw [r1.len, r2.len]; exact hz, fun e1 => ?_, fun _ e1 => ?_, fun _ _ p hp => ok.tup R hp (r1.app r2)⟩)
      · subst e1; cases r1; exact ok.here R (.tup q2 r2)
      · subst e1; cases r2; rw [List.append_nil] at ok; exact ok.here R (.tup q1 r1)
    · cases e
  · rename_i m m'
    split at e
    · rename_i xs ys e1 e2
      obtain ⟨hm, vs, hv, rv⟩ := R.lst e1
      obtain ⟨hm', ws, hw, rw'⟩ := R.lst e2
      cases ra with | ref _ => cases rb with | ref _ =>
      unfold newL at e
      split at e
      · rename_i hz
        cases e
        refine .inr (.inr ⟨_, _, _, _, rfl, rfl, hv, hw, by rw [rv.len, rw'.len, ← List.length_append]; exact hz, fun p hp => ok.lst R hp (RDs.app (rv.up (by omega)) (rw'.up (by omega)))⟩)
      · cases e
    · cases e
  · cases e
theorem ops_sub : OpS X (binaryOp .Sub) subD := by
  refine ⟨_, op_sub, fun ι h H x y a b R ra rb d h' e Q ok => ?_⟩
  unfold subD at e
  split at e
  · cases e
    cases ra with | p ra => cases rb with | p rb => cases ra; cases rb; exact ⟨_, _, rfl, rfl, ok.here R (.int _)⟩
  · cases e
theorem inW_iff {i : Int} (h : inW i = true) : -(2 ^ 64) < i ∧ i < 2 ^ 64 := by
  unfold inW at h
  simp only [Bool.and_eq_true, decide_eq_true_eq] at h
  exact h
end
end MP
end

section
set_option autoImplicit false
set_option linter.all false
set_option Elab.async false
set_option maxRecDepth 100000
set_option maxHeartbeats 4000000
/-! MPSnd3: more operators by values. -/
namespace MP
open PySem PySem.Spec PyProof.Rows L2
theorem tuple_mul1 (l : Addr) (items : Array Value) (n : Nat) (dd : Option Addr) (sl : Array (Option Value)) (u : Tok) (c1 : items.isEmpty = false) :
    PySem.Meets (Builtin.«tuple.__mul__» ⟨[.ref l, .int 1 u], []⟩) (fun _ R s => s.heap.get? l = some { cls := .type "tuple", dict := dd, data := .seq items n, slots := sl } ∧
      R (.ok (.ret (Value.ref l))) s) :=
  .of_wp fun prog w A R s h => by
    obtain ⟨hp, g, d, tk, os⟩ := s
    obtain ⟨hl, h⟩ := h
    have f1 := AutoSeq1.idx_int
    wp_walk using AutoSeq1.wpAny_loadPart' hl
    exact ⟨_, rfl, h⟩
section
variable {X : Cx} {k : Nat}
def rRep1 (K : PySem.W.Frag) : R2 := fun x y H Q => ∃ l xs, x = .ref l ∧ y = .int 1 ∧ SqT K H l xs ∧ xs ≠ [] ∧ Q (.ref l) H
theorem op_rep1 : OpR X (binaryOp .Mult) (rRep1 X.K) := by
  intro pins s σ H x y v u Q I rx ry h
  obtain ⟨l, xs, rfl, rfl, hT, hne, q⟩ := h
  cases rx
  obtain ⟨t, rfl⟩ := ry
  obtain ⟨its, r, ⟨⟨cls, dd, data, sl⟩, ho, hc, n, hd⟩, hs⟩ := I.tuple hT
  simp only at hc hd
  subst hc hd
  have hle : its.length = xs.length := r.length.symm
  have hn : its ≠ [] := fun e => hne (by
    rw [e] at hle
    exact List.eq_nil_of_length_eq_zero hle.symm)
  have hi : its.toArray.isEmpty = false := by
    cases its with
    | nil => exact absurd rfl hn
    | cons a b => rfl
  exact wpAny_binaryOp_repeat_ref (T := "tuple") (U := "int") (by decide) ⟨_, ho, rfl⟩ (fun s' => typeIs_int s' 1 t) noFill_tuple_mul F.fills_int_mul F.slot_int_rmul repeat_tuple F.slot_int_index.lookup
    (call_meets F.slot_int_rmul (typeIs_int s 1 t) F.entry_int_rmul (F.args_int_rmul_2 _ _) (int_rmul_tuple 1 t l its.toArray n dd sl)
      ⟨ho, rfl, ⟨_, ho, rfl⟩, call_meets F.slot_tuple_mul ⟨_, ho, rfl⟩ F.entry_tuple_mul (F.args_tuple_mul_2 _ _) (tuple_mul1 l its.toArray n dd sl t hi) ⟨ho, ⟨.ref l, H, I, rfl, q⟩⟩⟩)
theorem reps1 {α : Type} (xs : List α) : reps 1 xs = xs := by simp [reps]
theorem ops_mul : OpS X (binaryOp .Mult) mulD := by
  refine ⟨_, OpR.or op_mul (OpR.or op_rep1 (OpR.or op_repT op_rep)), fun ι h H x y a b R ra rb d h' e Q ok => ?_⟩
  unfold mulD at e
  split at e
  · split at e
    · rename_i hw
      cases e
      cases ra with | p ra => cases rb with | p rb =>
      cases ra; cases rb
      refine .inl ⟨_, _, rfl, rfl, ?_, ok.here R (.int _)⟩
      rw [Bool.or_eq_true] at hw
      rcases hw with hw | hw
      · exact .inl (inW_iff hw)
      · exact .inr (inW_iff hw)
    · cases e
  · split at e
    · rename_i hz
      cases e
      simp only [Bool.and_eq_true, decide_eq_true_eq] at hz
      cases ra with | p ra => cases rb with | p rb => cases ra with | tup q1 r1 =>
      cases rb
      have hl := r1.len
      have hne : ∀ {vs : List V}, vs.length ≥ 1 → vs ≠ [] := fun hv e => by rw [e] at hv; simp at hv
      rename_i xs k a vs
      by_cases h1 : k = 1
      · subst h1
        refine .inr (.inl ⟨_, _, rfl, rfl, q1, hne (by omega), ?_⟩)
        have e1 : reps (1 : Int).toNat xs = xs := reps1 xs
        rw [e1] at ok
        exact ok.here R (.tup q1 r1)
      · exact .inr (.inr (.inl ⟨_, _, _, rfl, rfl, q1, hne (by omega), by omega, by omega, by omega, fun p hp => ok.tup R hp (r1.rep _)⟩))
    · cases e
  · split at e
    · rename_i xs e1
      split at e
      · rename_i hz
        simp only [Bool.and_eq_true, decide_eq_true_eq] at hz
        obtain ⟨hm, vs, hv, rv⟩ := R.lst e1
        cases ra with | ref _ => cases rb with | p rb =>
        cases rb
        unfold newL at e
        split at e
        · cases e
          have hl := rv.len
          refine .inr (.inr (.inr ⟨_, _, _, rfl, rfl, hv, by omega, by omega, by rw [hl]; exact hz.2, fun p hp => ok.lst R hp (RDs.rep (rv.up (by omega)) _)⟩))
        · cases e
      · cases e
    · cases e
  · cases e
theorem ops_fdiv : OpS X (binaryOp .FloorDiv) fdivD := by
  refine ⟨_, op_fdivN, fun ι h H x y a b R ra rb d h' e Q ok => ?_⟩
  unfold fdivD at e
  split at e
  · split at e
    · rename_i hz
      simp only [Bool.and_eq_true, decide_eq_true_eq] at hz
      cases e
      cases ra with | p ra => cases rb with | p rb => cases ra; cases rb; exact ⟨_, _, rfl, rfl, hz, ok.here R (.int _)⟩
    · cases e
  · cases e
theorem ops_mod : OpS X (binaryOp .Mod) modD := by
  refine ⟨_, op_modN, fun ι h H x y a b R ra rb d h' e Q ok => ?_⟩
  unfold modD at e
  split at e
  · split at e
    · rename_i hz
      cases e
      cases ra with | p ra => cases rb with | p rb => cases ra; cases rb; exact ⟨_, _, rfl, rfl, hz, ok.here R (.int _)⟩
    · cases e
  · cases e
theorem ops_pow : OpS X (binaryOp .Pow) powD := by
  refine ⟨_, op_pow, fun ι h H x y a b R ra rb d h' e Q ok => ?_⟩
  unfold powD at e
  split at e
  · split at e
    · rename_i hz
      simp only [Bool.and_eq_true, decide_eq_true_eq] at hz
      cases e
      cases ra with | p ra => cases rb with | p rb => cases ra; cases rb; exact ⟨_, _, rfl, rfl, ⟨hz.1.1, by omega, hz.2⟩, ok.here R (.int _)⟩
    · cases e
  · cases e
def UnS (X : Cx) (f : Value → Sem Value) (g : D → Hh → Res D) : Prop :=
  ∃ r : V → Hp → VK → Prop, UnR X f r ∧ ∀ ι h H x a, Rp X.K ι h H → RD X.K ι h.length H x a → ∀ d h', g a h = .ok d h' → ∀ Q, OkV X.K ι h H d h' Q → r x H Q
theorem uns_neg : UnS X (unaryOp .USub) negD := by
  refine ⟨_, un_neg, fun ι h H x a R ra d h' e Q ok => ?_⟩
  unfold negD at e
  split at e
  · cases e
    cases ra with | p ra => cases ra; exact ⟨_, rfl, ok.here R (.int _)⟩
  · cases e
theorem ops_bop (o : Bop) : OpS X (binaryOp (match o with | .add => .Add | .sub => .Sub | .mul => .Mult | .fdiv => .FloorDiv | .mod => .Mod | .pow => .Pow)) (bopD o) := by
  cases o
  · exact ops_add
  · exact ops_sub
  · exact ops_mul
  · exact ops_fdiv
  · exact ops_mod
  · exact ops_pow

/-! ### comparisons -/
mutual
def toPy : P → PyData
  | .non => .none
  | .bl b => .bool b
  | .int i => .int i
  | .str s => .str s
  | .tup xs => .tuple (toPys xs)
def toPys : List P → List PyData
  | [] => []
  | x :: xs => toPy x :: toPys xs
end
mutual
theorem eqv_toPy : ∀ a b : P, PyData.eqv (toPy a) (toPy b) = a.eqv b
  | .tup xs, .tup ys => by simp only [toPy, PyData.eqv, P.eqv]; exact eqvL_toPy xs ys
  | .non, .non | .non, .bl _ | .non, .int _ | .non, .str _ | .non, .tup _ => by simp only [toPy, PyData.eqv, P.eqv]
  | .bl _, .non | .bl _, .bl _ | .bl _, .int _ | .bl _, .str _ | .bl _, .tup _ => by simp only [toPy, PyData.eqv, P.eqv]
  | .int _, .non | .int _, .bl _ | .int _, .int _ | .int _, .str _ | .int _, .tup _ => by simp only [toPy, PyData.eqv, P.eqv]
  | .str _, .non | .str _, .bl _ | .str _, .int _ | .str _, .str _ | .str _, .tup _ => by simp only [toPy, PyData.eqv, P.eqv]
  | .tup _, .non | .tup _, .bl _ | .tup _, .int _ | .tup _, .str _ => by simp only [toPy, PyData.eqv, P.eqv]
theorem eqvL_toPy : ∀ a b : List P, PyData.eqvAll (toPys a) (toPys b) = P.eqvL a b
  | [], [] | [], _ :: _ | _ :: _, [] => by simp only [toPys, PyData.eqvAll, P.eqvL]
  | x :: xs, y :: ys => by simp only [toPys, PyData.eqvAll, P.eqvL, eqv_toPy x y, eqvL_toPy xs ys]
end
mutual
theorem depth_toPy : ∀ a : P, (toPy a).depth = a.depth
  | .non | .bl _ | .int _ | .str _ => by simp only [toPy, PyData.depth, P.depth]
  | .tup xs => by simp only [toPy, PyData.depth, P.depth, depthL_toPy xs]
theorem depthL_toPy : ∀ a : List P, PyData.depthAll (toPys a) = P.depthL a
  | [] => by simp only [toPys, PyData.depthAll, P.depthL]
  | x :: xs => by simp only [toPys, PyData.depthAll, P.depthL, depth_toPy x, depthL_toPy xs]
end
section
variable {K : PySem.W.Frag} {ι : Nat → Addr} {n : Nat} {H : Hp} {h : Hh}
mutual
theorem RP.dp : ∀ {v : V} {x : P}, RP K H v x → Dp K H v (toPy x) ∧ (toPy x).canLay0 = true
  | _, _, .non => ⟨.non, by simp only [toPy, PyData.canLay0]⟩
  | _, _, .bl b => ⟨.bl b, by simp only [toPy, PyData.canLay0]⟩
  | _, _, .int i => ⟨.int i, by simp only [toPy, PyData.canLay0]⟩
  | _, _, .str s ok _ => ⟨.str s, by simp only [toPy, PyData.canLay0]; exact ok⟩
  | _, _, .tup q r => ⟨.tup q r.dps.1, by simp only [toPy, PyData.canLay0]; exact r.dps.2⟩
theorem RPs.dps : ∀ {vs : List V} {ps : List P}, RPs K H vs ps → DpAll K H vs (toPys ps) ∧ PyData.canLayAll0 (toPys ps) = true
  | _, _, .nil => ⟨.nil, by simp only [toPys, PyData.canLayAll0]⟩
  | _, _, .cons r t => ⟨.cons r.dp.1 t.dps.1, by simp only [toPys, PyData.canLayAll0, r.dp.2, t.dps.2, Bool.and_self]⟩
end
theorem shaped_of {v : V} {x : P} (r : RP K H v x) (hs : shaped x = true) : SeqAt.shaped (toPy x) = true := by
  unfold shaped at hs
  simp only [decide_eq_true_eq] at hs
  show ((toPy x).canLay0 && decide ((toPy x).depth ≤ 64)) = true
  rw [r.dp.2, depth_toPy, decide_eq_true (by omega)]
  rfl
theorem shapedL_of {vs : List V} {xs : List P} (r : RPs K H vs xs) (hs : shaped (.tup xs) = true) : SeqAt.shaped (.list (toPys xs)) = true := by
  have hs' : (P.tup xs).depth ≤ 60 := of_decide_eq_true hs
  simp only [P.depth] at hs'
  show ((PyData.list (toPys xs)).canLay0 && decide ((PyData.list (toPys xs)).depth ≤ 64)) = true
  simp only [PyData.canLay0, r.dps.2, PyData.depth, depthL_toPy, Bool.true_and, decide_eq_true_eq]
  omega
theorem Rp.pureL (R : Rp K ι h H) {m : Nat} {xs : List P} (e : (seqAt h m).bind pures = some xs) : m < h.length ∧ ∃ vs, SqL K H (ι m) vs ∧ RPs K H vs xs := by
  cases q : seqAt h m with
  | none => rw [q] at e; cases e
  | some ds =>
    rw [q] at e
    obtain ⟨hm, vs, hv, r⟩ := R.seq q
    exact ⟨hm, vs, hv, r.pures e⟩
end
theorem opb_eq (hr : Room k X.A) : OpB X (compareOp .Eq) eqD := by
  refine ⟨_, op_eqD hr.units, fun ι h H x y a b R ra rb d h' e Q ok => ?_⟩
  unfold eqD at e
  split at e
  · split at e
    · rename_i hz
      rw [Bool.and_eq_true] at hz
      cases e
      cases ra with | p ra => cases rb with | p rb =>
      exact ⟨_, _, ra.dp.1, rb.dp.1, shaped_of ra hz.1, shaped_of rb hz.2, by rw [eqv_toPy]; exact ok.here R⟩
    · cases e
  · split at e
    · rename_i xs ys e1 e2
      split at e
      · rename_i hz
        rw [Bool.and_eq_true] at hz
        cases e
        cases ra with | ref _ => cases rb with | ref _ =>
        obtain ⟨_, vs, hv, rv⟩ := R.pureL e1
        obtain ⟨_, ws, hw, rw'⟩ := R.pureL e2
        exact ⟨_, _, .lst hv rv.dps.1, .lst hw rw'.dps.1, shapedL_of rv hz.1, shapedL_of rw' hz.2, by
          show Q (.bl (PyData.eqv (.list _) (.list _))) H
          simp only [PyData.eqv, eqvL_toPy]; exact ok.here R⟩
      · cases e
    · cases e
  · cases e
theorem opb_ne (hr : Room k X.A) : OpB X (compareOp .NotEq) (fun x y h => notR (eqD x y h)) := by
  refine ⟨_, op_neD hr.units, fun ι h H x y a b R ra rb d h' e Q ok => ?_⟩
  obtain ⟨b0, h0, e, e0⟩ := Res.bind_ok e
  cases e0
  unfold eqD at e
  split at e
  · split at e
    · rename_i hz
      rw [Bool.and_eq_true] at hz
      cases e
      cases ra with | p ra => cases rb with | p rb =>
      exact ⟨_, _, ra.dp.1, rb.dp.1, shaped_of ra hz.1, shaped_of rb hz.2, by rw [eqv_toPy]; exact ok.here R⟩
    · cases e
  · split at e
    · rename_i xs ys e1 e2
      split at e
      · rename_i hz
        rw [Bool.and_eq_true] at hz
        cases e
        cases ra with | ref _ => cases rb with | ref _ =>
        obtain ⟨_, vs, hv, rv⟩ := R.pureL e1
        obtain ⟨_, ws, hw, rw'⟩ := R.pureL e2
        exact ⟨_, _, .lst hv rv.dps.1, .lst hw rw'.dps.1, shapedL_of rv hz.1, shapedL_of rw' hz.2, by
          show Q (.bl (!PyData.eqv (.list _) (.list _))) H
          simp only [PyData.eqv, eqvL_toPy]; exact ok.here R⟩
      · cases e
    · cases e
  · cases e
theorem opb_int {op : CmpOp} {f : Int → Int → Bool} {r : R2} (ho : OpR X (compareOp op) r) (hr : ∀ i j H Q, Q (.bl (f i j)) H → r (.int i) (.int j) H Q) : OpB X (compareOp op) (cmpI f) := by
  refine ⟨_, ho, fun ι h H x y a b R ra rb d h' e Q ok => ?_⟩
  unfold cmpI at e
  split at e
  · cases e
    cases ra with | p ra => cases rb with | p rb => cases ra; cases rb; exact hr _ _ _ _ (ok.here R)
  · cases e
theorem opb_lt : OpB X (compareOp .Lt) (cmpI fun i j => decide (i < j)) := opb_int op_lt fun _ _ _ _ q => ⟨_, _, rfl, rfl, q⟩
theorem opb_le : OpB X (compareOp .LtE) (cmpI fun i j => decide (i ≤ j)) := opb_int op_le fun _ _ _ _ q => ⟨_, _, rfl, rfl, q⟩
theorem opb_gt : OpB X (compareOp .Gt) (cmpI fun i j => decide (j < i)) := opb_int op_gt fun _ _ _ _ q => ⟨_, _, rfl, rfl, q⟩
theorem opb_ge : OpB X (compareOp .GtE) (cmpI fun i j => decide (j ≤ i)) := opb_int op_ge fun _ _ _ _ q => ⟨_, _, rfl, rfl, q⟩
end
end MP
end

section
set_option autoImplicit false
set_option linter.all false
set_option Elab.async false
set_option maxRecDepth 100000
set_option maxHeartbeats 4000000
/-! MPSnd4: in, truth, items, slices, built-ins, methods, stores. -/
namespace MP
open PySem PySem.Spec PyProof.Rows L2
section
variable {X : Cx} {k : Nat} {K : PySem.W.Frag} {ι : Nat → Addr} {n : Nat} {H : Hp} {h : Hh}
theorem RP.flat {v : V} {x : P} (r : RP K H v x) (f : flatP x = true) : flatV v = true := by
  cases r with
  | tup q r => exact absurd f Bool.false_ne_true
  | _ => rfl
theorem RP.eqvV {v u : V} {x y : P} (r : RP K H v x) (q : RP K H u y) (f : flatP x = true) (g : flatP y = true) : eqV v u = x.eqv y := by
  cases r <;> cases q <;> first | exact absurd f Bool.false_ne_true | exact absurd g Bool.false_ne_true | (simp only [P.eqv]; rfl)
theorem RPs.flats : ∀ {vs : List V} {xs : List P}, RPs K H vs xs → xs.all flatP = true → vs.all flatV = true
  | _, _, .nil, _ => rfl
  | _, _, .cons r t, f => by
    rw [List.all_cons, Bool.and_eq_true] at f ⊢
    exact ⟨r.flat f.1, t.flats f.2⟩
theorem RPs.inV {u : V} {a : P} (q : RP K H u a) (g : flatP a = true) : ∀ {vs : List V} {xs : List P}, RPs K H vs xs → xs.all flatP = true → L2.inV u vs = xs.any fun z => z.eqv a
  | _, _, .nil, _ => rfl
  | _, _, .cons r t, f => by
    rw [List.all_cons, Bool.and_eq_true] at f
    have e := RPs.inV q g t f.2
    unfold L2.inV at e ⊢
    rw [List.any_cons, List.any_cons, e, r.eqvV q f.1 g]
theorem any_toPys (a : P) : ∀ xs : List P, ((toPys xs).any fun z => PyData.eqv z (toPy a)) = xs.any fun z => z.eqv a
  | [] => rfl
  | x :: xs => by simp only [toPys, List.any_cons, eqv_toPy, any_toPys a xs]
theorem inD_cases {x y : D} {b : Bool} {h' : Hh} (e : inD x y h = .ok b h') : h' = h ∧
    ((∃ a ys, x = .p a ∧ y = .p (.tup ys) ∧ flatP a = true ∧ ys.all flatP = true ∧ b = ys.any fun z => z.eqv a) ∨
     ∃ a m ys, x = .p a ∧ y = .ref m ∧ (seqAt h m).bind pures = some ys ∧ shaped a = true ∧ shaped (.tup ys) = true ∧ b = ys.any fun z => z.eqv a) := by
  unfold inD at e
  split at e
  · split at e
    · rename_i hz
      rw [Bool.and_eq_true] at hz
      cases e
      exact ⟨rfl, .inl ⟨_, _, rfl, rfl, hz.1, hz.2, rfl⟩⟩
    · cases e
  · split at e
    · rename_i ys e1
      split at e
      · rename_i hz
        rw [Bool.and_eq_true] at hz
        cases e
        exact ⟨rfl, .inr ⟨_, _, _, rfl, rfl, e1, hz.1, hz.2, rfl⟩⟩
      · cases e
    · cases e
  · cases e
theorem opb_in (hr : Room k X.A) : OpB X (compareOp .In) inD := by
  have hu : X.A.units + 65 < cLine := by have := hr.un; omega
  refine ⟨_, OpR.or op_in_seq (op_inD hu), fun ι h H x y a b R ra rb d h' e Q ok => ?_⟩
  obtain ⟨rfl, c⟩ := inD_cases e
  rcases c with ⟨a, ys, rfl, rfl, f, g, rfl⟩ | ⟨a, m, ys, rfl, rfl, e1, f, g, rfl⟩
  · cases ra with | p ra => cases rb with | p rb => cases rb with | tup q1 r1 =>
    exact .inl ⟨_, _, rfl, .inr q1, ra.flat f, r1.flats g, by rw [r1.inV ra f g]; exact ok.here R⟩
  · obtain ⟨_, vs, hv, rv⟩ := R.pureL e1
    cases ra with | p ra => cases rb with | ref _ =>
    exact .inr ⟨_, _, ra.dp.1, .lst hv rv.dps.1, shaped_of ra f, shapedL_of rv g, by rw [any_toPys]; exact ok.here R⟩
theorem opb_notin (hr : Room k X.A) : OpB X (compareOp .NotIn) (fun x y h => notR (inD x y h)) := by
  have hu : X.A.units + 65 < cLine := by have := hr.un; omega
  refine ⟨_, OpR.or op_notIn_seq (op_notInD hu), fun ι h H x y a b R ra rb d h' e Q ok => ?_⟩
  obtain ⟨b0, h0, e, e0⟩ := Res.bind_ok e
  cases e0
  obtain ⟨rfl, c⟩ := inD_cases e
  rcases c with ⟨a, ys, rfl, rfl, f, g, rfl⟩ | ⟨a, m, ys, rfl, rfl, e1, f, g, rfl⟩
  · cases ra with | p ra => cases rb with | p rb => cases rb with | tup q1 r1 =>
    exact .inl ⟨_, _, rfl, .inr q1, ra.flat f, r1.flats g, by rw [r1.inV ra f g]; exact ok.here R⟩
  · obtain ⟨_, vs, hv, rv⟩ := R.pureL e1
    cases ra with | p ra => cases rb with | ref _ =>
    exact .inr ⟨_, _, ra.dp.1, .lst hv rv.dps.1, shaped_of ra f, shapedL_of rv g, by rw [any_toPys]; exact ok.here R⟩
def copK : Cop → CmpOp
  | .eq => .Eq | .ne => .NotEq | .lt => .Lt | .le => .LtE | .gt => .Gt | .ge => .GtE | .isin => .In | .notin => .NotIn
theorem opb_cop (hr : Room k X.A) (o : Cop) : OpB X (compareOp (copK o)) (copD o) := by
  cases o
  · exact opb_eq hr
  · exact opb_ne hr
  · exact opb_lt
  · exact opb_le
  · exact opb_gt
  · exact opb_ge
  · exact opb_in hr
  · exact opb_notin hr

/-! ### truth -/
theorem tru_of {x : V} {d : D} {b : Bool} {h' : Hh} (R : Rp K ι h H) (r : RD K ι h.length H x d) (e : truD d h = .ok b h') : h' = h ∧ TruV K x H b := by
  have eE : ∀ {α β : Type} {l : List α} {m : List β}, l.length = m.length → l.isEmpty = m.isEmpty := fun {α β l m} e => by
    cases l <;> cases m <;> first | rfl | (simp at e)
  unfold truD at e
  split at e
  · cases e; cases r with | p r => cases r; exact ⟨rfl, rfl⟩
  · cases e; cases r with | p r => cases r; exact ⟨rfl, rfl⟩
  · cases e; cases r with | p r => cases r; exact ⟨rfl, rfl⟩
  · cases e; cases r with | p r => cases r with | str s ok z => exact ⟨rfl, z, rfl⟩
  · cases e; cases r with | p r => cases r with | tup q1 r1 => exact ⟨rfl, .inr (.inl ⟨_, q1, by rw [eE r1.len]⟩)⟩
  · split at e
    · rename_i xs e1
      cases e
      obtain ⟨_, vs, hv, rv⟩ := R.seq e1
      cases r with | ref _ => exact ⟨rfl, .inl ⟨_, hv, by rw [eE rv.len]⟩⟩
    · cases e

/-! ### items and slices -/
theorem ixN_eq (n : Nat) (i : Int) : L2.ixN n i = MP.ixN n i := rfl
theorem RPs.at {vs : List V} {xs : List P} {i : Int} {x : P} (r : RPs K H vs xs) (e : MP.atI xs i = some x) : ∃ v, L2.atI vs i = some v ∧ RP K H v x := by
  unfold MP.atI at e
  unfold L2.atI
  rw [ixN_eq, r.len]
  cases q : MP.ixN xs.length i with
  | none => rw [q] at e; cases e
  | some j => rw [q] at e; exact r.get e
theorem RDs.at {vs : List V} {xs : List D} {i : Int} {x : D} (r : RDs K ι n H vs xs) (e : MP.atI xs i = some x) : ∃ v, L2.atI vs i = some v ∧ RD K ι n H v x := by
  unfold MP.atI at e
  unfold L2.atI
  rw [ixN_eq, r.len]
  cases q : MP.ixN xs.length i with
  | none => rw [q] at e; cases e
  | some j => rw [q] at e; exact r.get e
def IxS (X : Cx) (g : D → D → Hh → Res D) : Prop :=
  ∃ r : R2, IxR X r ∧ ∀ ι h H x y a b, Rp X.K ι h H → RD X.K ι h.length H x a → RD X.K ι h.length H y b → ∀ d h', g a b h = .ok d h' → ∀ Q, OkV X.K ι h H d h' Q → r x y H Q
theorem ixs_idx : IxS X idxD := by
  refine ⟨_, ix_list.or ix_tup, fun ι h H x y a b R ra rb d h' e Q ok => ?_⟩
  unfold idxD at e
  split at e
  · split at e
    · rename_i v e1
      cases e
      cases ra with | p ra => cases rb with | p rb => cases ra with | tup q1 r1 =>
      cases rb
      obtain ⟨w, e2, r2⟩ := r1.at e1
      exact .inr ⟨_, _, _, _, rfl, rfl, q1, e2, ok.here R r2⟩
    · cases e
  · split at e
    · rename_i e1
      rename_i m i _ d0
      cases e
      cases q : seqAt h m with
      | none => rw [q] at e1; cases e1
      | some ds =>
        rw [q] at e1
        obtain ⟨hm, vs, hv, rv⟩ := R.seq q
        obtain ⟨w, e2, r2⟩ := RDs.at rv e1
        cases ra with | ref _ => cases rb with | p rb =>
        cases rb
        exact .inl ⟨_, _, _, _, rfl, rfl, hv, e2, ok w ι H Later.refl R (r2.up (by omega))⟩
    · cases e
  · cases e
theorem sIx_eq (n d : Nat) (o : Option Int) : HT.sIx n d o = MP.sIx n d o := by cases o <;> rfl
theorem RPs.cut {vs : List V} {xs : List P} (r : RPs K H vs xs) (lo hi : Option Int) : RPs K H (cutV vs lo hi) (MP.cut xs lo hi) := by
  unfold cutV MP.cut
  simp only [sIx_eq, r.len]
  exact (r.drop _).take _
theorem RDs.cut {vs : List V} {xs : List D} (r : RDs K ι n H vs xs) (lo hi : Option Int) : RDs K ι n H (cutV vs lo hi) (MP.cut xs lo hi) := by
  unfold cutV MP.cut
  simp only [sIx_eq, r.len]
  exact RDs.take _ (RDs.drop _ r)
def SlS (X : Cx) (g : D → Option Int → Option Int → Hh → Res D) : Prop :=
  ∃ r : V → Option Int → Option Int → Hp → VK → Prop, SlR X r ∧ ∀ ι h H x a lo hi, Rp X.K ι h H → RD X.K ι h.length H x a → ∀ d h', g a lo hi h = .ok d h' → ∀ Q, OkV X.K ι h H d h' Q → r x lo hi H Q
theorem cut_whole {α : Type} {xs : List α} {lo hi : Option Int} (h1 : MP.sIx xs.length 0 lo = 0) (h2 : MP.sIx xs.length xs.length hi = xs.length) : MP.cut xs lo hi = xs := by
  unfold MP.cut
  rw [h1, h2]
  simp
theorem sls_cut : SlS X cutD := by
  refine ⟨_, sl_list.or sl_tupA, fun ι h H x a lo hi R ra d h' e Q ok => ?_⟩
  unfold cutD at e
  split at e
  · cases e
    cases ra with | p ra => cases ra with | tup q1 r1 =>
    refine .inr ⟨_, _, rfl, q1, fun hw => ?_, fun _ p hp => ok.tup R hp (r1.cut lo hi)⟩
    rw [sIx_eq, sIx_eq, r1.len] at hw
    rw [cut_whole hw.1 hw.2] at ok
    exact ok.here R (.tup q1 r1)
  · split at e
    · rename_i m ds e1
      unfold newL at e
      split at e
      · cases e
        obtain ⟨hm, vs, hv, rv⟩ := R.seq e1
        cases ra with | ref _ =>
        exact .inl ⟨_, _, rfl, hv, fun p hp => ok.lst R hp (RDs.cut (rv.up (by omega)) lo hi)⟩
      · cases e
    · cases e
  · cases e

/-! ### built-ins -/
def CallS (X : Cx) (f : Value) (g : List D → Hh → Res D) : Prop :=
  ∃ r : List V → Hp → VK → Prop, CallR X f r ∧ ∀ ι h H xs ds, Rp X.K ι h H → RDs X.K ι h.length H xs ds → ∀ d h', g ds h = .ok d h' → ∀ Q, OkV X.K ι h H d h' Q → r xs H Q
theorem RDs.one {xs : List V} {d : D} (r : RDs K ι n H xs [d]) : ∃ v, xs = [v] ∧ RD K ι n H v d := by
  cases r with | cons r t => cases t; exact ⟨_, rfl, r⟩
theorem RDs.two {xs : List V} {d e : D} (r : RDs K ι n H xs [d, e]) : ∃ v u, xs = [v, u] ∧ RD K ι n H v d ∧ RD K ι n H u e := by
  cases r with | cons r t => cases t with | cons r' t => cases t; exact ⟨_, _, rfl, r, r'⟩
theorem calls_1 {f : Value} {g : D → Hh → Res D} {r : List V → Hp → VK → Prop} (hc : CallR X f r)
    (hg : ∀ ι h H v a, Rp X.K ι h H → RD X.K ι h.length H v a → ∀ d h', g a h = .ok d h' → ∀ Q, OkV X.K ι h H d h' Q → r [v] H Q) : CallS X f (un1 g) := by
  refine ⟨_, hc, fun ι h H xs ds R rd d h' e Q ok => ?_⟩
  unfold un1 at e
  split at e
  · obtain ⟨v, ev, rv⟩ := RDs.one rd
    subst ev
    exact hg ι h H v _ R rv d h' e Q ok
  · cases e
theorem calls_2 {f : Value} {g : D → D → Hh → Res D} {r : List V → Hp → VK → Prop} (hc : CallR X f r)
    (hg : ∀ ι h H v u a b, Rp X.K ι h H → RD X.K ι h.length H v a → RD X.K ι h.length H u b → ∀ d h', g a b h = .ok d h' → ∀ Q, OkV X.K ι h H d h' Q → r [v, u] H Q) : CallS X f (un2 g) := by
  refine ⟨_, hc, fun ι h H xs ds R rd d h' e Q ok => ?_⟩
  unfold un2 at e
  split at e
  · obtain ⟨v, u, ev, rv, ru⟩ := RDs.two rd
    subst ev
    exact hg ι h H v u _ _ R rv ru d h' e Q ok
  · cases e
theorem calls_len : CallS X (.builtin "len") (bltD .len) := by
  refine calls_1 call_len fun ι h H v a R rv d h' e Q ok => ?_
  unfold lenD at e
  split at e
  · cases e
    cases rv with | p r => cases r with | tup q1 r1 => exact ⟨_, _, rfl, .inr ⟨_, q1, rfl⟩, by rw [r1.len]; exact ok.here R (.int _)⟩
  · cases e
    cases rv with | p r => cases r with | str s _ z => exact ⟨_, _, rfl, ⟨z, rfl⟩, ok.here R (.int _)⟩
  · split at e
    · rename_i ys e1
      cases e
      obtain ⟨hm, vs, hv, rs⟩ := R.seq e1
      cases rv with | ref _ => exact ⟨_, _, rfl, .inl ⟨_, hv, rfl⟩, by rw [RDs.len rs]; exact ok.here R (.int _)⟩
    · cases e
  · cases e
theorem calls_abs : CallS X (.builtin "abs") (bltD .abs) := by
  refine calls_1 call_abs fun ι h H v a R rv d h' e Q ok => ?_
  unfold absD at e
  split at e
  · cases e; cases rv with | p r => cases r; exact ⟨_, rfl, ok.here R (.int _)⟩
  · cases e
theorem calls_min2 (hc : X.calm = true) : CallS X (.builtin "min") (bltD .min2) := by
  refine calls_2 (call_min2 hc) fun ι h H v u a b R rv ru d h' e Q ok => ?_
  unfold minD at e
  split at e
  · cases e; cases rv with | p r => cases ru with | p r' => cases r; cases r'; exact ⟨_, _, rfl, ok.here R (.int _)⟩
  · cases e
theorem calls_max2 (hc : X.calm = true) : CallS X (.builtin "max") (bltD .max2) := by
  refine calls_2 (call_max2 hc) fun ι h H v u a b R rv ru d h' e Q ok => ?_
  unfold maxD at e
  split at e
  · cases e; cases rv with | p r => cases ru with | p r' => cases r; cases r'; exact ⟨_, _, rfl, ok.here R (.int _)⟩
  · cases e
theorem calls_int : CallS X (.type "int") (bltD .int) := by
  refine calls_1 call_int1 fun ι h H v a R rv d h' e Q ok => ?_
  unfold intD at e
  split at e
  · cases e; cases rv with | p r => cases r; exact .inl ⟨_, rfl, ok.here R (.int _)⟩
  · cases e; cases rv with | p r => cases r; exact .inr ⟨_, rfl, ok.here R (.int _)⟩
  · cases e
theorem newL_ok {xs : List D} {d : D} {h h' : Hh} (e : newL xs h = .ok d h') : d = .ref h.length ∧ h' = h ++ [.lst xs] ∧ xs.length ≤ sizeLine := by
  unfold newL at e
  split at e
  · rename_i hz; cases e; exact ⟨rfl, rfl, hz⟩
  · cases e
theorem calls_list : CallS X (.type "list") (bltD .list) := by
  refine calls_1 call_list_of fun ι h H v a R rv d h' e Q ok => ?_
  unfold listD at e
  split at e
  · obtain ⟨rfl, rfl, hz⟩ := newL_ok e
    cases rv with | p r => cases r with | tup q1 r1 => exact ⟨_, _, rfl, .inr q1, fun l hl => ok.lst R hl r1.rds⟩
  · split at e
    · rename_i ys e1
      obtain ⟨rfl, rfl, hz⟩ := newL_ok e
      obtain ⟨hm, vs, hv, rs⟩ := R.seq e1
      cases rv with | ref _ => exact ⟨_, _, rfl, .inl hv, fun l hl => ok.lst R hl (RDs.up (by omega) rs)⟩
    · cases e
  · cases e
theorem calls_tuple : CallS X (.type "tuple") (bltD .tuple) := by
  refine calls_1 call_tuple_of fun ι h H v a R rv d h' e Q ok => ?_
  unfold tupleD at e
  split at e
  · cases e
    cases rv with | p r => cases r with | tup q1 r1 => exact ⟨_, _, rfl, .inr ⟨q1, ok.here R (.tup q1 r1)⟩⟩
  · split at e
    · rename_i ys e1
      cases e
      obtain ⟨hm, vs, hv, rs⟩ := R.pureL e1
      cases rv with | ref _ => exact ⟨_, _, rfl, .inl ⟨hv, fun l hl => ok.tup R hl rs⟩⟩
    · cases e
  · cases e
def tyN : Ty → String
  | .tuple => "tuple" | .str => "str" | .int => "int" | .bool => "bool" | .list => "list"
theorem cell_ty {m : Nat} (R : Rp K ι h H) (hm : m < h.length) : TyX K H (.ref (ι m)) (.type "list") := by
  have q := R.cell m h[m] (List.getElem?_eq_getElem hm)
  cases e : h[m] with
  | lst ds => rw [e] at q; obtain ⟨vs, e1, _⟩ := q; exact .base (.lst e1)
  | rol ds =>
    rw [e] at q
    obtain ⟨vs, ⟨o, e1⟩ | ⟨o, its, n, e1, c, _⟩, _⟩ := q
    · exact .base (.frz e1)
    · exact .kList e1 c
theorem isi_ok {v : V} {d : D} (R : Rp K ι h H) (r : RD K ι h.length H v d) (t : Ty) : ∃ T, TyX K H v (.type T) ∧ PySem.W.kitOne K (.type T) (.type (tyN t)) = some (isTy t d) := by
  have go : ∀ {T : String}, TyX K H v (.type T) → kitB T (tyN t) = some (isTy t d) → ∃ T, TyX K H v (.type T) ∧ PySem.W.kitOne K (.type T) (.type (tyN t)) = some (isTy t d) := fun {T} a b => ⟨T, a, kit_ty b⟩
  cases r with
  | ref hm => exact go (cell_ty R hm) ((by cases t <;> decide +kernel : kitB "list" (tyN t) = some (isTy t (.ref 0))).trans (by cases t <;> rfl))
  | p r =>
    cases r with
    | non => exact go (.base .non) ((by cases t <;> decide +kernel : kitB "NoneType" (tyN t) = some (isTy t (.p .non))).trans (by cases t <;> rfl))
    | bl b => exact go (.base (.bl b)) ((by cases t <;> decide +kernel : kitB "bool" (tyN t) = some (isTy t (.p (.bl true)))).trans (by cases t <;> rfl))
    | int i => exact go (.base (.int i)) ((by cases t <;> decide +kernel : kitB "int" (tyN t) = some (isTy t (.p (.int 0)))).trans (by cases t <;> rfl))
    | str s _ _ => exact go (.base (.str s)) ((by cases t <;> decide +kernel : kitB "str" (tyN t) = some (isTy t (.p (.str ⟨#[]⟩)))).trans (by cases t <;> rfl))
    | tup q r =>
      refine go (T := "tuple") ?_ ((by cases t <;> decide +kernel : kitB "tuple" (tyN t) = some (isTy t (.p (.tup [])))).trans (by cases t <;> rfl))
      rcases q with (q | ⟨o, q⟩) | ⟨o, its, n, q, c, _⟩
      · exact .base (.tup q)
      · exact .fTuple q
      · exact .kTuple q c

/-! ### methods of lists -/
def MthS (X : Cx) (id : String) (g : D → List D → Hh → Res D) : Prop :=
  ∃ r : V → List V → Hp → VK → Prop, MtR X id r ∧ ∀ ι h H x xs a ds, Rp X.K ι h H → RD X.K ι h.length H x a → RDs X.K ι h.length H xs ds → ∀ d h', g a ds h = .ok d h' → ∀ Q, OkV X.K ι h H d h' Q → r x xs H Q
theorem mths_append : MthS X "list.append" (mthD .append) := by
  refine ⟨_, mt_append, fun ι h H x xs a ds R ra rd d h' e Q ok => ?_⟩
  unfold mthD lm1 at e
  simp only at e
  split at e
  · obtain ⟨v, ev, rv⟩ := RDs.one rd
    subst ev
    unfold appendD at e
    split at e
    · rename_i ys e1
      split at e
      · rename_i hz
        simp only [Bool.and_eq_true, decide_eq_true_eq] at hz
        cases e
        obtain ⟨hm, vs, hv, rs⟩ := R.lst e1
        cases ra with | ref _ =>
        have w := R.write (lstAt_get e1) (RDs.snoc rs (rv.low hz.2))
        exact ⟨_, _, _, rfl, rfl, hv, by rw [RDs.len rs]; exact hz.1, ok _ _ _ w.2 w.1 (.p .non)⟩
      · cases e
    · cases e
  · cases e
theorem mths_pop0 : MthS X "list.pop" (mthD .pop0) := by
  refine ⟨_, mt_pop, fun ι h H x xs a ds R ra rd d h' e Q ok => ?_⟩
  unfold mthD lm0 at e
  simp only at e
  split at e
  · cases rd
    unfold pop0D at e
    split at e
    · rename_i ys e1
      split at e
      · rename_i y e2
        cases e
        obtain ⟨hm, vs, hv, rs⟩ := R.lst e1
        cases ra with | ref _ =>
        obtain ⟨v, e3, r3⟩ := RDs.get rs e2
        have w := R.write (lstAt_get e1) (RDs.dropLast rs)
        exact ⟨_, _, _, rfl, rfl, hv, by rw [RDs.len rs]; exact e3, ok _ _ _ w.2 w.1 ((r3.up (Nat.le_of_lt hm)).mono w.2)⟩
      · cases e
    · cases e
  · cases e
theorem mths_pop1 : MthS X "list.pop" (mthD .pop1) := by
  refine ⟨_, mt_popAt, fun ι h H x xs a ds R ra rd d h' e Q ok => ?_⟩
  unfold mthD lm1 at e
  simp only at e
  split at e
  · obtain ⟨v, ev, rv⟩ := RDs.one rd
    subst ev
    unfold pop1D at e
    split at e
    · rename_i ys i e1
      split at e
      · rename_i j e0
        split at e
        · rename_i y e2
          cases e
          split at e0
          · rename_i hb
            simp only [Bool.and_eq_true, decide_eq_true_eq] at hb
            obtain ⟨hm, vs, hv, rs⟩ := R.lst e1
            cases ra with | ref _ => cases rv with | p rv =>
            cases rv
            obtain ⟨v, e3, r3⟩ := RDs.get rs e2
            have w := R.write (lstAt_get e1) (RDs.erase j rs)
            have e4 : L2.ixN vs.length i = some j := by rw [ixN_eq, RDs.len rs]; exact e0
            exact ⟨_, _, _, _, _, rfl, rfl, hv, by omega, by omega, (ixN_seq e4).1, e3, ok _ _ _ w.2 w.1 ((r3.up (Nat.le_of_lt hm)).mono w.2)⟩
          · cases e0
        · cases e
      · cases e
    · cases e
  · cases e
/-- o[i] = v -/
theorem set_ok {x y z : V} {a b d : D} {h' : Hh} {u : Unit} (R : Rp K ι h H) (ra : RD K ι h.length H x a) (rb : RD K ι h.length H y b) (rd : RD K ι h.length H z d) (e : setD a b d h = .ok u h')
    {Q : Hp → Prop} (ok : ∀ ι' H', Later K ι h H ι' h' H' → Rp K ι' h' H' → Q H') : rSetL x y z H Q := by
  unfold setD at e
  split at e
  · split at e
    · rename_i ys e1
      split at e
      · rename_i j e2
        split at e
        · rename_i hb
          cases e
          obtain ⟨hm, vs, hv, rs⟩ := R.lst e1
          cases ra with | ref _ => cases rb with | p rb =>
          cases rb
          have w := R.write (lstAt_get e1) (RDs.set (rd.low hb) j rs)
          exact ⟨_, _, _, _, rfl, rfl, hv, by rw [ixN_eq, RDs.len rs]; exact e2, ok _ _ w.2 w.1⟩
        · cases e
      · cases e
    · cases e
  · cases e
end
end MP
end

section
set_option autoImplicit false
set_option linter.all false
set_option Elab.async false
set_option maxRecDepth 100000
set_option maxHeartbeats 4000000
/-! MPSnd5: expressions. -/
namespace MP
open PySem PySem.Spec PyProof.Rows L2

/-! ### what the syntax says at once -/
structure GoodE (e : Expr) : Prop where
  ns : ∀ es env, starEach (e :: es) env = (false, eval e env) :: starEach es env
  bm : ∀ op, behindInMarks op e = false
  fs : ∀ env x, foldedSetIterable e env x = pure x
  ix : ∀ o i, subscripted e false o i = operate [o, i] (getItem o i)
def gd : Expr → Bool
  | .Set .. => false
  | .Starred .. => false
  | .Slice .. => false
  | _ => true
theorem good {e : Expr} (h : gd e = true) : GoodE e := by
  cases e <;> first | exact ⟨fun _ _ => rfl, fun _ => rfl, fun _ _ => rfl, fun _ _ => rfl⟩ | exact absurd h Bool.false_ne_true
/-- a test is its value's truth -/
def plT : Expr → Bool
  | .UnaryOp .Not _ _ => false
  | .BoolOp .. => false
  | .IfExp .. => false
  | .Compare .. => false
  | _ => true
theorem plain {e : Expr} (h : plT e = true) (env : Env) (whole : Sem Value) : isTrue e env whole = (do let v ← whole; standAt e.pos; holding [v] (truthy v)) := by
  cases e with
  | UnaryOp op a p => cases op <;> first | rfl | exact absurd h Bool.false_ne_true
  | _ => first | rfl | exact absurd h Bool.false_ne_true
/-- no comprehension -/
def nsw : Expr → Bool
  | .ListComp .. => false
  | .SetComp .. => false
  | .DictComp .. => false
  | _ => true
theorem noswap {e : Expr} (h : nsw e = true) (t : Option Expr) (l : Nat) (env : Env) : swapsWith e t l env = pure false := by
  cases e <;> first | rfl | exact absurd h Bool.false_ne_true
theorem any_back (pos : Pos) : ∀ {es : List Expr} (env : Env), (∀ e ∈ es, GoodE e) → (backTo pos (starEach es env)).any (·.1) = false
  | [], _, _ => rfl
  | e :: es, env, h => by
    rw [(h e List.mem_cons_self).ns]
    show ((false, eval e env) :: backTo pos (starEach es env)).any (·.1) = false
    rw [List.any_cons, any_back pos env fun x hx => h x (List.mem_cons_of_mem _ hx)]
    rfl
theorem all_back (pos : Pos) : ∀ {es : List Expr} (env : Env), (∀ e ∈ es, GoodE e) → (backTo pos (starEach es env)).all (fun x => !x.1) = true
  | [], _, _ => rfl
  | e :: es, env, h => by
    rw [(h e List.mem_cons_self).ns]
    show ((false, eval e env) :: backTo pos (starEach es env)).all (fun x => !x.1) = true
    rw [List.all_cons, all_back pos env fun x hx => h x (List.mem_cons_of_mem _ hx)]
    rfl

/-! ### where the code stands -/
structure EnvR (K : PySem.W.Frag) (ι : Nat → Addr) (n : Nat) (H : Hp) (σ : L2.St) (ρ : Ev) : Prop where
  len : σ.length = ρ.length
  get : ∀ (i : Nat) (d : D), ρ[i]? = some (some d) → ∃ v, σ[i]? = some (some v) ∧ RD K ι n H v d
section
variable {K : PySem.W.Frag} {ι ι' : Nat → Addr} {n n' : Nat} {H H' : Hp} {σ : L2.St} {ρ : Ev}
theorem EnvR.mono {h h' : Hh} (E : EnvR K ι h.length H σ ρ) (l : Later K ι h H ι' h' H') : EnvR K ι' h'.length H' σ ρ := ⟨E.len, fun i d e => by
  obtain ⟨v, h1, h2⟩ := E.get i d e
  exact ⟨v, h1, h2.mono l⟩⟩
theorem EnvR.set (E : EnvR K ι n H σ ρ) {i : Nat} {v : V} {d : D} (r : RD K ι n H v d) : EnvR K ι n H (σ.set i (some v)) (ρ.set i (some d)) := by
  refine ⟨by simp [E.len], fun j e h => ?_⟩
  by_cases hj : i = j
  · subst hj
    have hl : i < ρ.length := by
      have := (List.getElem?_eq_some_iff.mp h).1
      simpa using this
    rw [List.getElem?_set_self hl] at h
    cases h
    exact ⟨v, List.getElem?_set_self (by rw [E.len]; exact hl), r⟩
  · rw [List.getElem?_set_ne hj] at h ⊢
    exact E.get j e h
theorem EnvR.unset (E : EnvR K ι n H σ ρ) {i : Nat} : EnvR K ι n H (σ.set i none) (ρ.set i none) := by
  refine ⟨by simp [E.len], fun j e h => ?_⟩
  by_cases hj : i = j
  · subst hj
    have hl : i < ρ.length := by
      have := (List.getElem?_eq_some_iff.mp h).1
      simpa using this
    rw [List.getElem?_set_self hl] at h
    cases h
  · rw [List.getElem?_set_ne hj] at h ⊢
    exact E.get j e h
end
abbrev Base (K : PySem.W.Frag) (ι : Nat → Addr) (h : Hh) (H : Hp) (σ : L2.St) (ρ : Ev) : Prop := EnvR K ι h.length H σ ρ ∧ Rp K ι h H
def OkL (K : PySem.W.Frag) (ι : Nat → Addr) (h : Hh) (H : Hp) (ds : List D) (h' : Hh) (Q : List V → Hp → Prop) : Prop :=
  ∀ vs ι' H', Later K ι h H ι' h' H' → Rp K ι' h' H' → RDs K ι' h'.length H' vs ds → Q vs H'
def SndE (X : Cx) (e : Expr) (m : ME) : Prop :=
  ∃ t, PE X e t ∧ ∀ σ ρ ι h H, EnvR X.K ι h.length H σ ρ → Rp X.K ι h H → ∀ d h', m ρ h = .ok d h' → ∀ Q, OkV X.K ι h H d h' Q → t σ H Q
def SndT (X : Cx) (e : Expr) (m : MT) : Prop :=
  ∃ t, PT X e t ∧ ∀ σ ρ ι h H, EnvR X.K ι h.length H σ ρ → Rp X.K ι h H → ∀ d h', m ρ h = .ok d h' → ∀ Q, OkB X.K ι h H d h' Q → t σ H Q
def SndW (X : Cx) (e : Expr) (m : MT) : Prop :=
  ∃ t, PW X e t ∧ ∀ σ ρ ι h H, EnvR X.K ι h.length H σ ρ → Rp X.K ι h H → ∀ d h', m ρ h = .ok d h' → ∀ Q, OkB X.K ι h H d h' Q → t σ H Q
def SndA (X : Cx) (es : List Expr) (ms : MEs) : Prop :=
  ∃ t, PA X es t ∧ ∀ σ ρ ι h H, EnvR X.K ι h.length H σ ρ → Rp X.K ι h H → ∀ d h', ms ρ h = .ok d h' → ∀ Q, OkL X.K ι h H d h' Q → t σ H Q
def SndO (X : Cx) (e : Option Expr) (m : MO) : Prop :=
  ∃ t, PO X e t ∧ ∀ σ ρ ι h H, EnvR X.K ι h.length H σ ρ → Rp X.K ι h H → ∀ o h', m ρ h = .ok o h' → ∀ Q : Option Int → Hp → Prop, (∀ ι' H', Later X.K ι h H ι' h' H' → Rp X.K ι' h' H' → Q o H') → t σ H Q
def SndR (X : Cx) (e : Expr) (m : MR) : Prop :=
  ∃ t, PRg X e t ∧ ∀ σ ρ ι h H, EnvR X.K ι h.length H σ ρ → Rp X.K ι h H → ∀ o h', m ρ h = .ok o h' → ∀ Q : Int → Int → Hp → Prop, (∀ ι' H', Later X.K ι h H ι' h' H' → Rp X.K ι' h' H' → Q o.1 o.2 H') → t σ H Q

section
variable {X : Cx} {pos : Pos}
theorem snd_var {i : Nat} {x : Str} (hN : X.N[i]? = some x) (hv : Vis X.env.scope x) (hd : (x == ("__debug__" : Str)) = false) (hcd : (x == ("__classdict__" : Str)) = false) : SndE X (.Name x pos) (mv i) := by
  refine ⟨_, pe_var hN hv hd hcd, fun σ ρ ι h H E R d h' e Q ok => ?_⟩
  unfold mv at e
  split at e
  · rename_i d0 e0
    cases e
    obtain ⟨v, e1, r⟩ := E.get _ _ e0
    exact ⟨v, e1, ok v ι H Later.refl R r⟩
  · cases e
theorem snd_int {i : Int} {j : Nat} : SndE X (.Constant (.int i) j pos) (mc (.int i)) := ⟨_, pe_int, fun σ ρ ι h H E R d h' e Q ok => by cases e; exact ok.here R (.int i)⟩
theorem snd_bl {i : Bool} {j : Nat} : SndE X (.Constant (.bool i) j pos) (mc (.bl i)) := ⟨_, pe_bl, fun σ ρ ι h H E R d h' e Q ok => by cases e; exact ok.here R (.bl i)⟩
theorem snd_non {j : Nat} : SndE X (.Constant .none j pos) (mc .non) := ⟨_, pe_non, fun σ ρ ι h H E R d h' e Q ok => by cases e; exact ok.here R .non⟩
theorem snd_str {i : Str} {j : Nat} (hs : PyData.strOk i = true) (hz : i.length ≤ sizeLine) : SndE X (.Constant (.str i) j pos) (mc (.str i)) := ⟨_, pe_str, fun σ ρ ι h H E R d h' e Q ok => by cases e; exact ok.here R (.str i hs hz)⟩
theorem snd_gc {e : Expr} {m : ME} (s : SndE X e m) : SndE X e (mgc m) := by
  obtain ⟨t, p, q⟩ := s
  refine ⟨t, p, fun σ ρ ι h H E R d h' e Q ok => ?_⟩
  obtain ⟨d1, h1, e1, e2⟩ := Res.bind_ok e
  refine q σ ρ ι h H E R _ _ e1 Q fun v ι' H' L R' r => ?_
  obtain ⟨ι2, L2, R2, r2⟩ := gcv_ok rfl R' r L e2
  exact ok v ι2 H' L2 R2 r2
theorem snda_nil : SndA X [] (mes []) := ⟨_, pa_nil, fun σ ρ ι h H E R d h' e Q ok => by cases e; exact ok [] ι H Later.refl R .nil⟩
theorem snda_cons {e : Expr} {es : List Expr} {m : ME} {ms : List ME} (g : GoodE e) (a : SndE X e m) (b : SndA X es (mes ms)) : SndA X (e :: es) (mes (m :: ms)) := by
  obtain ⟨t, p, q⟩ := a
  obtain ⟨u, p', q'⟩ := b
  refine ⟨_, pa_cons p p' (g.ns _ _), fun σ ρ ι h H E R d h' e Q ok => ?_⟩
  obtain ⟨d1, h1, e1, e⟩ := Res.bind_ok e
  obtain ⟨ds, h2, e2, e⟩ := Res.bind_ok e
  cases e
  refine q σ ρ ι h H E R _ _ e1 _ fun v ι1 H1 L1 R1 r1 => ?_
  refine q' σ ρ ι1 _ H1 (E.mono L1) R1 _ _ e2 _ fun vs ι2 H2 L2 R2 r2 => ?_
  exact ok _ ι2 H2 (L1.trans L2) R2 (.cons (r1.mono L2) r2)
theorem snd_tup {es : List Expr} {ms : List ME} {k : Nat} (a : SndA X es (mes ms)) : SndE X (.Tuple es k pos) (mtup ms) := by
  obtain ⟨t, p, q⟩ := a
  refine ⟨_, pe_tup p, fun σ ρ ι h H E R d h' e Q ok => ?_⟩
  obtain ⟨ds, h1, e1, e⟩ := Res.bind_ok e
  split at e
  · rename_i xs e2
    split at e
    · rename_i hz
      cases e
      refine q σ ρ ι h H E R _ _ e1 _ fun vs ι1 H1 L1 R1 r1 => ?_
      have r2 := r1.pures e2
      exact ⟨by rw [r2.len]; exact hz, fun p hp => (ok.after L1).tup R1 hp r2⟩
    · cases e
  · cases e
theorem snd_lst {es : List Expr} {ms : List ME} (a : SndA X es (mes ms)) : SndE X (.List es pos) (mlst ms) := by
  obtain ⟨t, p, q⟩ := a
  refine ⟨_, pe_lst p, fun σ ρ ι h H E R d h' e Q ok => ?_⟩
  obtain ⟨ds, h1, e1, e⟩ := Res.bind_ok e
  obtain ⟨rfl, rfl, hz⟩ := newL_ok e
  refine q σ ρ ι h H E R _ _ e1 _ fun vs ι1 H1 L1 R1 r1 => ?_
  exact ⟨by rw [RDs.len r1]; exact hz, fun p hp => (ok.after L1).lst R1 hp r1⟩
theorem snd_bin {a b : Expr} {ma mb : ME} {op : Operator} {o : Bop} (ho : OpS X (binaryOp op) (bopD o)) (sa : SndE X a ma) (sb : SndE X b mb) : SndE X (.BinOp a op b pos) (mbin o ma mb) := by
  obtain ⟨r, hr, qo⟩ := ho
  obtain ⟨t, p, q⟩ := sa
  obtain ⟨u, p', q'⟩ := sb
  refine ⟨_, pe_op hr p p', fun σ ρ ι h H E R d h' e Q ok => ?_⟩
  obtain ⟨d1, h1, e1, e⟩ := Res.bind_ok e
  obtain ⟨d2, h2, e2, e⟩ := Res.bind_ok e
  refine q σ ρ ι h H E R _ _ e1 _ fun v ι1 H1 L1 R1 r1 => ?_
  refine q' σ ρ ι1 _ H1 (E.mono L1) R1 _ _ e2 _ fun w ι2 H2 L2 R2 r2 => ?_
  exact qo ι2 _ H2 v w _ _ R2 (r1.mono L2) r2 d h' e Q ((ok.after L1).after L2)
theorem snd_neg {a : Expr} {ma : ME} (sa : SndE X a ma) : SndE X (.UnaryOp .USub a pos) (mneg ma) := by
  obtain ⟨r, hr, qo⟩ := uns_neg (X := X)
  obtain ⟨t, p, q⟩ := sa
  refine ⟨_, pe_un hr p, fun σ ρ ι h H E R d h' e Q ok => ?_⟩
  obtain ⟨d1, h1, e1, e⟩ := Res.bind_ok e
  refine q σ ρ ι h H E R _ _ e1 _ fun v ι1 H1 L1 R1 r1 => ?_
  exact qo ι1 _ H1 v _ R1 r1 d h' e Q (ok.after L1)
theorem mB_ok {t : MT} {ρ : Ev} {h h' : Hh} {d : D} (e : mB t ρ h = .ok d h') : ∃ b, t ρ h = .ok b h' ∧ d = .p (.bl b) := by
  obtain ⟨b, h1, e1, e⟩ := Res.bind_ok e
  cases e
  exact ⟨b, e1, rfl⟩
theorem snd_cmp {a b : Expr} {ma mb : ME} {op : CmpOp} {o : Cop} (g : GoodE b) (ho : OpB X (compareOp op) (copD o)) (sa : SndE X a ma) (sb : SndE X b mb) : SndE X (.Compare a [op] [b] pos) (mB (mcmpT o ma mb)) := by
  obtain ⟨r, hr, qo⟩ := ho
  obtain ⟨t, p, q⟩ := sa
  obtain ⟨u, p', q'⟩ := sb
  refine ⟨_, pe_cmpR hr p p' (g.bm _), fun σ ρ ι h H E R d h' e Q ok => ?_⟩
  obtain ⟨c, e0, hd⟩ := mB_ok e
  subst hd
  clear e
  obtain ⟨d1, h1, e1, e⟩ := Res.bind_ok e0
  obtain ⟨d2, h2, e2, e⟩ := Res.bind_ok e
  refine q σ ρ ι h H E R _ _ e1 _ fun v ι1 H1 L1 R1 r1 => ?_
  refine q' σ ρ ι1 _ H1 (E.mono L1) R1 _ _ e2 _ fun w ι2 H2 L2 R2 r2 => ?_
  exact qo ι2 _ H2 v w _ _ R2 (r1.mono L2) r2 c h' e Q fun ι3 H3 L3 R3 => ok _ ι3 H3 ((L1.trans L2).trans L3) R3 (.p (.bl c))
theorem sndt_cmp {a b : Expr} {ma mb : ME} {op : CmpOp} {o : Cop} (g : GoodE b) (ho : OpB X (compareOp op) (copD o)) (sa : SndE X a ma) (sb : SndE X b mb) : SndT X (.Compare a [op] [b] pos) (mcmpT o ma mb) := by
  obtain ⟨r, hr, qo⟩ := ho
  obtain ⟨t, p, q⟩ := sa
  obtain ⟨u, p', q'⟩ := sb
  refine ⟨_, pt_cmpR hr p p' (g.bm _), fun σ ρ ι h H E R d h' e Q ok => ?_⟩
  obtain ⟨d1, h1, e1, e⟩ := Res.bind_ok e
  obtain ⟨d2, h2, e2, e⟩ := Res.bind_ok e
  refine q σ ρ ι h H E R _ _ e1 _ fun v ι1 H1 L1 R1 r1 => ?_
  refine q' σ ρ ι1 _ H1 (E.mono L1) R1 _ _ e2 _ fun w ι2 H2 L2 R2 r2 => ?_
  exact qo ι2 _ H2 v w _ _ R2 (r1.mono L2) r2 d h' e _ fun ι3 H3 L3 R3 => ⟨d, rfl, ok ι3 H3 ((L1.trans L2).trans L3) R3⟩
/-- is None, is not None -/
theorem RD.isNone {K : PySem.W.Frag} {ι : Nat → Addr} {n : Nat} {H : Hp} {v : V} {d : D} (r : RD K ι n H v d) : decide (v = .non) = MP.isNone d := by
  cases r with
  | ref _ => rfl
  | p r => cases r <;> rfl
theorem snd_isn {a : Expr} {ma : ME} {j : Nat} {p' : Pos} (sa : SndE X a ma) : SndE X (.Compare a [.Is] [.Constant .none j p'] pos) (mB (misnT false ma)) := by
  obtain ⟨t, p, q⟩ := sa
  refine ⟨_, pe_cmp (pc_isN p) rfl, fun σ ρ ι h H E R d h' e Q ok => ?_⟩
  obtain ⟨c, e0, hd⟩ := mB_ok e
  subst hd
  clear e
  obtain ⟨d1, h1, e1, e⟩ := Res.bind_ok e0
  cases e
  refine q σ ρ ι h H E R _ _ e1 _ fun v ι1 H1 L1 R1 r1 => ?_
  show Q (.bl (decide (v = .non))) H1
  have z := ok (.bl (MP.isNone d1 != false)) ι1 H1 L1 R1 (.p (.bl _))
  rw [r1.isNone]
  simpa using z
theorem snd_isnn {a : Expr} {ma : ME} {j : Nat} {p' : Pos} (sa : SndE X a ma) : SndE X (.Compare a [.IsNot] [.Constant .none j p'] pos) (mB (misnT true ma)) := by
  obtain ⟨t, p, q⟩ := sa
  refine ⟨_, pe_cmp (pc_notN p) rfl, fun σ ρ ι h H E R d h' e Q ok => ?_⟩
  obtain ⟨c, e0, hd⟩ := mB_ok e
  subst hd
  clear e
  obtain ⟨d1, h1, e1, e⟩ := Res.bind_ok e0
  cases e
  refine q σ ρ ι h H E R _ _ e1 _ fun v ι1 H1 L1 R1 r1 => ?_
  show Q (.bl (!decide (v = .non))) H1
  have z := ok (.bl (MP.isNone d1 != true)) ι1 H1 L1 R1 (.p (.bl _))
  rw [r1.isNone]
  simpa using z
theorem sndt_isn {a : Expr} {ma : ME} {j : Nat} {p' : Pos} (sa : SndE X a ma) : SndT X (.Compare a [.Is] [.Constant .none j p'] pos) (misnT false ma) := by
  obtain ⟨t, p, q⟩ := sa
  refine ⟨_, pt_cmp (pc_isN p) rfl, fun σ ρ ι h H E R d h' e Q ok => ?_⟩
  obtain ⟨d1, h1, e1, e⟩ := Res.bind_ok e
  cases e
  refine q σ ρ ι h H E R _ _ e1 _ fun v ι1 H1 L1 R1 r1 => ?_
  have z := ok ι1 H1 L1 R1
  exact ⟨_, rfl, by rw [r1.isNone]; simpa using z⟩
theorem sndt_isnn {a : Expr} {ma : ME} {j : Nat} {p' : Pos} (sa : SndE X a ma) : SndT X (.Compare a [.IsNot] [.Constant .none j p'] pos) (misnT true ma) := by
  obtain ⟨t, p, q⟩ := sa
  refine ⟨_, pt_cmp (pc_notN p) rfl, fun σ ρ ι h H E R d h' e Q ok => ?_⟩
  obtain ⟨d1, h1, e1, e⟩ := Res.bind_ok e
  cases e
  refine q σ ρ ι h H E R _ _ e1 _ fun v ι1 H1 L1 R1 r1 => ?_
  have z := ok ι1 H1 L1 R1
  exact ⟨_, rfl, by rw [r1.isNone]; simpa using z⟩
/-- a test of a value -/
theorem sndt_tru {e : Expr} {m : ME} (hp : plT e = true) (s : SndE X e m) : SndT X e (mtru m) := by
  obtain ⟨t, p, q⟩ := s
  refine ⟨_, pt_truth p (plain hp _), fun σ ρ ι h H E R d h' e Q ok => ?_⟩
  obtain ⟨d1, h1, e1, e⟩ := Res.bind_ok e
  refine q σ ρ ι h H E R _ _ e1 _ fun v ι1 H1 L1 R1 r1 => ?_
  obtain ⟨rfl, z⟩ := tru_of R1 r1 e
  exact ⟨d, z, ok ι1 H1 L1 R1⟩
theorem sndt_not {a : Expr} {m : MT} (s : SndT X a m) : SndT X (.UnaryOp .Not a pos) (mnotT m) := by
  obtain ⟨t, p, q⟩ := s
  refine ⟨_, pt_not p, fun σ ρ ι h H E R d h' e Q ok => ?_⟩
  obtain ⟨d1, h1, e1, e⟩ := Res.bind_ok e
  cases e
  exact q σ ρ ι h H E R _ _ e1 _ fun ι1 H1 L1 R1 => ok ι1 H1 L1 R1
theorem SndW.t {e : Expr} {m : MT} (s : SndW X e m) : SndT X e m := by
  obtain ⟨t, p, q⟩ := s
  exact ⟨t, p.pt, q⟩
theorem sndw_and1 {a : Expr} {m : MT} (s : SndT X a m) : SndW X (.BoolOp .And [a] pos) m := by
  obtain ⟨t, p, q⟩ := s
  exact ⟨t, pw_and1 p, q⟩
theorem sndw_or1 {a : Expr} {m : MT} (s : SndT X a m) : SndW X (.BoolOp .Or [a] pos) m := by
  obtain ⟨t, p, q⟩ := s
  exact ⟨t, pw_or1 p, q⟩
theorem sndw_and {a b : Expr} {rest : List Expr} {m m' : MT} (s : SndT X a m) (s' : SndW X (.BoolOp .And (b :: rest) pos) m') : SndW X (.BoolOp .And (a :: b :: rest) pos) (mandT m m') := by
  obtain ⟨t, p, q⟩ := s
  obtain ⟨t', p', q'⟩ := s'
  refine ⟨_, pw_and p p', fun σ ρ ι h H E R d h' e Q ok => ?_⟩
  obtain ⟨c, h1, e1, e⟩ := Res.bind_ok e
  refine q σ ρ ι h H E R _ _ e1 _ fun ι1 H1 L1 R1 => ?_
  cases c with
  | true => rw [if_pos rfl] at e ⊢; exact q' σ ρ ι1 _ H1 (E.mono L1) R1 d h' e Q (ok.after L1)
  | false => rw [if_neg Bool.false_ne_true] at e ⊢; cases e; exact ok ι1 H1 L1 R1
theorem sndw_or {a b : Expr} {rest : List Expr} {m m' : MT} (s : SndT X a m) (s' : SndW X (.BoolOp .Or (b :: rest) pos) m') : SndW X (.BoolOp .Or (a :: b :: rest) pos) (morT m m') := by
  obtain ⟨t, p, q⟩ := s
  obtain ⟨t', p', q'⟩ := s'
  refine ⟨_, pw_or p p', fun σ ρ ι h H E R d h' e Q ok => ?_⟩
  obtain ⟨c, h1, e1, e⟩ := Res.bind_ok e
  refine q σ ρ ι h H E R _ _ e1 _ fun ι1 H1 L1 R1 => ?_
  cases c with
  | true => rw [if_pos rfl] at e ⊢; cases e; exact ok ι1 H1 L1 R1
  | false => rw [if_neg Bool.false_ne_true] at e ⊢; exact q' σ ρ ι1 _ H1 (E.mono L1) R1 d h' e Q (ok.after L1)
theorem snd_not {a : Expr} {m : ME} (s : SndE X a m) : SndE X (.UnaryOp .Not a pos) (mnot m) := by
  obtain ⟨t, p, q⟩ := s
  refine ⟨_, pe_notT p, fun σ ρ ι h H E R d h' e Q ok => ?_⟩
  obtain ⟨d1, h1, e1, e⟩ := Res.bind_ok e
  obtain ⟨c, h2, e2, e⟩ := Res.bind_ok e
  cases e
  refine q σ ρ ι h H E R _ _ e1 _ fun v ι1 H1 L1 R1 r1 => ?_
  obtain ⟨rfl, z⟩ := tru_of R1 r1 e2
  exact ⟨c, z, ok _ ι1 H1 L1 R1 (.p (.bl _))⟩
theorem snd_one {a : Expr} {m : ME} {op : BoolOp} (s : SndE X a m) : SndE X (.BoolOp op [a] pos) m := by
  obtain ⟨t, p, q⟩ := s
  exact ⟨t, pe_one p, q⟩
theorem snd_and {a b : Expr} {rest : List Expr} {m m' : ME} (s : SndE X a m) (s' : SndE X (.BoolOp .And (b :: rest) pos) m') : SndE X (.BoolOp .And (a :: b :: rest) pos) (mand m m') := by
  obtain ⟨t, p, q⟩ := s
  obtain ⟨t', p', q'⟩ := s'
  refine ⟨_, pe_andT p p', fun σ ρ ι h H E R d h' e Q ok => ?_⟩
  obtain ⟨d1, h1, e1, e⟩ := Res.bind_ok e
  obtain ⟨c, h2, e2, e⟩ := Res.bind_ok e
  refine q σ ρ ι h H E R _ _ e1 _ fun v ι1 H1 L1 R1 r1 => ?_
  obtain ⟨rfl, z⟩ := tru_of R1 r1 e2
  refine ⟨c, z, ?_⟩
  cases c with
  | true => rw [if_pos rfl] at e ⊢; exact q' σ ρ ι1 _ H1 (E.mono L1) R1 d h' e Q (ok.after L1)
  | false => rw [if_neg Bool.false_ne_true] at e ⊢; cases e; exact ok v ι1 H1 L1 R1 r1
theorem snd_or {a b : Expr} {rest : List Expr} {m m' : ME} (s : SndE X a m) (s' : SndE X (.BoolOp .Or (b :: rest) pos) m') : SndE X (.BoolOp .Or (a :: b :: rest) pos) (mor m m') := by
  obtain ⟨t, p, q⟩ := s
  obtain ⟨t', p', q'⟩ := s'
  refine ⟨_, pe_orT p p', fun σ ρ ι h H E R d h' e Q ok => ?_⟩
  obtain ⟨d1, h1, e1, e⟩ := Res.bind_ok e
  obtain ⟨c, h2, e2, e⟩ := Res.bind_ok e
  refine q σ ρ ι h H E R _ _ e1 _ fun v ι1 H1 L1 R1 r1 => ?_
  obtain ⟨rfl, z⟩ := tru_of R1 r1 e2
  refine ⟨c, z, ?_⟩
  cases c with
  | true => rw [if_pos rfl] at e ⊢; cases e; exact ok v ι1 H1 L1 R1 r1
  | false => rw [if_neg Bool.false_ne_true] at e ⊢; exact q' σ ρ ι1 _ H1 (E.mono L1) R1 d h' e Q (ok.after L1)
theorem snd_ifx {c a b : Expr} {mc : MT} {ma mb : ME} (s : SndT X c mc) (sa : SndE X a ma) (sb : SndE X b mb) : SndE X (.IfExp c a b pos) (mifx mc ma mb) := by
  obtain ⟨t, p, q⟩ := s
  obtain ⟨t1, p1, q1⟩ := sa
  obtain ⟨t2, p2, q2⟩ := sb
  refine ⟨_, pe_ifExp p p1 p2, fun σ ρ ι h H E R d h' e Q ok => ?_⟩
  obtain ⟨k, h1, e1, e⟩ := Res.bind_ok e
  refine q σ ρ ι h H E R _ _ e1 _ fun ι1 H1 L1 R1 => ?_
  cases k with
  | true => rw [if_pos rfl] at e ⊢; exact q1 σ ρ ι1 _ H1 (E.mono L1) R1 d h' e Q (ok.after L1)
  | false => rw [if_neg Bool.false_ne_true] at e ⊢; exact q2 σ ρ ι1 _ H1 (E.mono L1) R1 d h' e Q (ok.after L1)
theorem snd_idx {a b : Expr} {ma mb : ME} (g : GoodE b) (sa : SndE X a ma) (sb : SndE X b mb) : SndE X (.Subscript a b pos) (midx ma mb) := by
  obtain ⟨r, hr, qo⟩ := ixs_idx (X := X)
  obtain ⟨t, p, q⟩ := sa
  obtain ⟨u, p', q'⟩ := sb
  refine ⟨_, pe_ix hr p p' g.ix, fun σ ρ ι h H E R d h' e Q ok => ?_⟩
  obtain ⟨d1, h1, e1, e⟩ := Res.bind_ok e
  obtain ⟨d2, h2, e2, e⟩ := Res.bind_ok e
  refine q σ ρ ι h H E R _ _ e1 _ fun v ι1 H1 L1 R1 r1 => ?_
  refine q' σ ρ ι1 _ H1 (E.mono L1) R1 _ _ e2 _ fun w ι2 H2 L2 R2 r2 => ?_
  exact qo ι2 _ H2 v w _ _ R2 (r1.mono L2) r2 d h' e Q ((ok.after L1).after L2)
theorem sndo_none : SndO X none mo0 := ⟨_, po_none, fun σ ρ ι h H E R d h' e Q ok => by cases e; exact ok ι H Later.refl R⟩
theorem sndo_some {a : Expr} {m : ME} (s : SndE X a m) : SndO X (some a) (mo1 m) := by
  obtain ⟨t, p, q⟩ := s
  refine ⟨_, po_some p, fun σ ρ ι h H E R d h' e Q ok => ?_⟩
  obtain ⟨d1, h1, e1, e⟩ := Res.bind_ok e
  split at e
  · cases e
    refine q σ ρ ι h H E R _ _ e1 _ fun v ι1 H1 L1 R1 r1 => ?_
    cases r1 with | p r1 => cases r1; exact ⟨_, rfl, ok ι1 H1 L1 R1⟩
  · cases e
theorem snd_cut {a : Expr} {lo hi : Option Expr} {p2 : Pos} {ma : ME} {ml mh : MO} (sa : SndE X a ma) (sl : SndO X lo ml) (sh : SndO X hi mh) : SndE X (.Subscript a (.Slice lo hi none p2) pos) (mcut ma ml mh) := by
  obtain ⟨r, hr, qo⟩ := sls_cut (X := X)
  obtain ⟨t, p, q⟩ := sa
  obtain ⟨t1, p1, q1⟩ := sl
  obtain ⟨t2, p2', q2⟩ := sh
  refine ⟨_, pe_slice hr p p1 p2', fun σ ρ ι h H E R d h' e Q ok => ?_⟩
  obtain ⟨d1, h1, e1, e⟩ := Res.bind_ok e
  obtain ⟨o1, h2, e2, e⟩ := Res.bind_ok e
  obtain ⟨o2, h3, e3, e⟩ := Res.bind_ok e
  refine q σ ρ ι h H E R _ _ e1 _ fun v ι1 H1 L1 R1 r1 => ?_
  refine q1 σ ρ ι1 _ H1 (E.mono L1) R1 _ _ e2 _ fun ι2 H2 L2 R2 => ?_
  refine q2 σ ρ ι2 _ H2 ((E.mono L1).mono L2) R2 _ _ e3 _ fun ι3 H3 L3 R3 => ?_
  exact qo ι3 _ H3 v _ o1 o2 R3 ((r1.mono L2).mono L3) d h' e Q (((ok.after L1).after L2).after L3)
end
end MP
end

section
set_option autoImplicit false
set_option linter.all false
set_option Elab.async false
set_option maxRecDepth 100000
set_option maxHeartbeats 4000000
/-! MPSnd6: calls, methods, what is walked, targets, comprehensions. -/
namespace MP
open PySem PySem.Spec PyProof.Rows L2
section
variable {X : Cx} {pos : Pos}
/-- the arguments of a call, the first one at least -/
theorem snd_blt {x : Str} {p : Pos} {id : String} {e : Expr} {es : List Expr} {b : Blt} {ms : List ME} (hc : CallS X (.builtin id) (bltD b)) (hg : Gl X x) (hm : X.mg x = none) (hv : bootBuiltins x = some (.builtin id))
    (hn : x ≠ "__name__") (hdb : (x == ("__debug__" : Str)) = false) (ge : GoodE e) (gs : ∀ y ∈ es, GoodE y) (a : SndA X (e :: es) (mes ms)) : SndE X (.Call (.Name x p) (e :: es) [] pos) (mblt b ms) := by
  obtain ⟨r, hr, qo⟩ := hc
  obtain ⟨t, pa, q⟩ := a
  refine ⟨_, pe_callB hr hg hm hv pa hn hdb (ge.ns _ _) (any_back pos _ gs), fun σ ρ ι h H E R d h' e Q ok => ?_⟩
  obtain ⟨ds, h1, e1, e⟩ := Res.bind_ok e
  refine q σ ρ ι h H E R _ _ e1 _ fun vs ι1 H1 L1 R1 r1 => ?_
  exact qo ι1 _ H1 vs _ R1 r1 d h' e Q (ok.after L1)
theorem snd_bty {x : Str} {p : Pos} {T : String} {e : Expr} {es : List Expr} {b : Blt} {ms : List ME} (hc : CallS X (.type T) (bltD b)) (hg : Gl X x) (hm : X.mg x = none) (hv : bootBuiltins x = some (.type T))
    (hn : x ≠ "__name__") (hdb : (x == ("__debug__" : Str)) = false) (ge : GoodE e) (gs : ∀ y ∈ es, GoodE y) (a : SndA X (e :: es) (mes ms)) : SndE X (.Call (.Name x p) (e :: es) [] pos) (mblt b ms) := by
  obtain ⟨r, hr, qo⟩ := hc
  obtain ⟨t, pa, q⟩ := a
  refine ⟨_, pe_callTy hr hg hm hv pa hn hdb (ge.ns _ _) (any_back pos _ gs), fun σ ρ ι h H E R d h' e Q ok => ?_⟩
  obtain ⟨ds, h1, e1, e⟩ := Res.bind_ok e
  refine q σ ρ ι h H E R _ _ e1 _ fun vs ι1 H1 L1 R1 r1 => ?_
  exact qo ι1 _ H1 vs _ R1 r1 d h' e Q (ok.after L1)
theorem snd_isi {p p2 : Pos} {a : Expr} {T : Str} {m : ME} {t : Ty} (hT : T = Str.ofString (tyN t)) (hg : Gl X "isinstance") (hm : X.mg "isinstance" = none) (hgT : Gl X T) (hmT : X.mg T = none) (hvT : bootBuiltins T = some (.type (tyN t)))
    (hnT : T ≠ "__name__") (hdT : (T == ("__debug__" : Str)) = false) (ga : GoodE a) (s : SndE X a m) : SndE X (.Call (.Name "isinstance" p) [a, .Name T p2] [] pos) (misi t m) := by
  obtain ⟨u, pa, q⟩ := s
  refine ⟨_, pe_callB call_isi hg hm (by decide +kernel) (pa_cons pa (pa_cons (pe_bltn (v := .ty (tyN t)) hgT hmT hvT rfl hnT hdT) pa_nil) (ga.ns _ _)) (by decide) (by decide) (ga.ns _ _) rfl, fun σ ρ ι h H E R d h' e Q ok => ?_⟩
  obtain ⟨d1, h1, e1, e⟩ := Res.bind_ok e
  cases e
  refine q σ ρ ι h H E R _ _ e1 _ fun v ι1 H1 L1 R1 r1 => ?_
  obtain ⟨T', ty, k⟩ := isi_ok R1 r1 t
  exact ⟨_, _, _, _, _, rfl, .ty _, ty, k, (ok.after L1).here R1 (.bl _)⟩
/-- ranges -/
theorem sndr_1 {p : Pos} {a : Expr} {m : ME} (hg : Gl X "range") (hm : X.mg "range" = none) (ga : GoodE a) (s : SndE X a m) : SndR X (.Call (.Name "range" p) [a] [] pos) (mr1 m) := by
  obtain ⟨t, pa, q⟩ := s
  refine ⟨_, prg_1 hg hm pa (ga.ns _ _), fun σ ρ ι h H E R d h' e Q ok => ?_⟩
  obtain ⟨d1, h1, e1, e⟩ := Res.bind_ok e
  split at e
  · cases e
    refine q σ ρ ι h H E R _ _ e1 _ fun v ι1 H1 L1 R1 r1 => ?_
    cases r1 with | p r1 => cases r1; exact ⟨_, rfl, ok ι1 H1 L1 R1⟩
  · cases e
theorem sndr_2 {p : Pos} {a b : Expr} {m m' : ME} (hg : Gl X "range") (hm : X.mg "range" = none) (ga : GoodE a) (gb : GoodE b) (s : SndE X a m) (s' : SndE X b m') : SndR X (.Call (.Name "range" p) [a, b] [] pos) (mr2 m m') := by
  obtain ⟨t, pa, q⟩ := s
  obtain ⟨t', pa', q'⟩ := s'
  refine ⟨_, prg_2 hg hm pa pa' (ga.ns _ _) (gb.ns _ _) (any_back _ _ fun y hy => by rw [List.mem_singleton.mp hy]; exact gb), fun σ ρ ι h H E R d h' e Q ok => ?_⟩
  obtain ⟨d1, h1, e1, e⟩ := Res.bind_ok e
  obtain ⟨d2, h2, e2, e⟩ := Res.bind_ok e
  split at e
  · cases e
    refine q σ ρ ι h H E R _ _ e1 _ fun v ι1 H1 L1 R1 r1 => ?_
    refine q' σ ρ ι1 _ H1 (E.mono L1) R1 _ _ e2 _ fun w ι2 H2 L2 R2 r2 => ?_
    cases r1 with | p r1 => cases r2 with | p r2 => cases r1; cases r2; exact ⟨_, _, rfl, rfl, ok ι2 H2 (L1.trans L2) R2⟩
  · cases e
theorem rgOk_iff {a b : Int} (h : rgOk a b = true) : (-1000000000 ≤ a ∧ a ≤ 1000000000) ∧ (-1000000000 ≤ b ∧ b ≤ 1000000000) ∧ (b - a).toNat ≤ szl := by
  unfold rgOk at h
  simp only [Bool.and_eq_true, decide_eq_true_eq] at h
  obtain ⟨⟨⟨⟨h1, h2⟩, h3⟩, h4⟩, h5⟩ := h
  exact ⟨⟨h1, h2⟩, ⟨h3, h4⟩, h5⟩
theorem rgL_ok {K : PySem.W.Frag} {ι : Nat → Addr} {n : Nat} {H : Hp} (a b : Int) : RDs K ι n H (rgV a b) (rgL a b) := by
  unfold rgV rgL
  generalize List.range (b - a).toNat = l
  induction l with
  | nil => exact .nil
  | cons x l ih => exact .cons (.p (.int _)) ih
theorem snd_lrg {p : Pos} {e : Expr} {m : MR} (hc : X.calm = true) (hg : Gl X "list") (hm : X.mg "list" = none) (ge : GoodE e) (s : SndR X e m) : SndE X (.Call (.Name "list" p) [e] [] pos) (mlrg m) := by
  obtain ⟨t, pa, q⟩ := s
  refine ⟨_, pe_listRg hc hg hm pa (ge.ns _ _), fun σ ρ ι h H E R d h' e Q ok => ?_⟩
  obtain ⟨ab, h1, e1, e⟩ := Res.bind_ok e
  split at e
  · rename_i hz
    obtain ⟨rfl, rfl, _⟩ := newL_ok e
    refine q σ ρ ι h H E R _ _ e1 _ fun ι1 H1 L1 R1 => ?_
    obtain ⟨h1, h2, h3⟩ := rgOk_iff hz
    exact ⟨⟨by omega, by omega, by omega, by omega, h3⟩, fun q hq => (ok.after L1).lst R1 hq (rgL_ok _ _)⟩
  · cases e

/-! ### functions of the text -/
/-- a def's promise: what the clean function says -/
def SpF (K : PySem.W.Frag) (n : Nat) (g : List D → Hh → Res D) : Sp := fun vs H Q _ => vs.length = n ∧ ∃ ι h ds, Rp K ι h H ∧ RDs K ι h.length H vs ds ∧ ∃ d h', g ds h = .ok d h' ∧ OkV K ι h H d h' Q
def GcdF (g : List D → Hh → Res D) : Prop := ∀ ds h d h', g ds h = .ok d h' → ∃ a b : Int, ds = [.p (.int a), .p (.int b)] ∧ d = .p (.int ((Nat.gcd a.natAbs b.natAbs : Nat) : Int)) ∧ h' = h
def FnFact (X : Cx) (k : Nat) (x : Str) (n : Nat) (g : List D → Hh → Res D) : Prop :=
  (x = ("gcd" : Str) ∧ X.mg x = some (.builtin "math.gcd") ∧ GcdF g) ∨ (∀ ds h d h', g ds h = .ok d h' → ds.length = n) ∧ ∃ fa fd ps, ps.length = n ∧ X.mg x = some (.ref fa) ∧ PySem.W.keepIn X.K (.ref fa) = true ∧ Binds X.K fd ps [] ∧ FnOk X.prog X.w X.K X.mg X.base CX0 k fa fd ps (SpF X.K n g)
theorem snd_call0 {Γ : Fns} {f k n : Nat} {x : Str} {p : Pos} (F : FnFact X k x n (Γ f)) (hr : Room k X.A) (hg : Gl X x) (hdb : (x == ("__debug__" : Str)) = false) (hne : (x == ("gcd" : Str)) = false) : SndE X (.Call (.Name x p) [] [] pos) (mcall Γ f []) := by
  rcases F with ⟨hx, hm, G⟩ | ⟨hn, fa, fd, ps, hps, hm, hk, hb, G⟩
  · subst hx
    exact absurd hne (by decide)
  refine ⟨_, pe_call0 G hr hg hm hk hb .nil pass0 hdb, fun σ ρ ι h H E R d h' e Q ok => ?_⟩
  obtain ⟨ds, h1, e1, e'⟩ := Res.bind_ok e
  cases e1
  exact ⟨hn _ _ _ _ e', ι, h, [], R, .nil, d, h', e', ok⟩
theorem snd_call {Γ : Fns} {f k n : Nat} {x : Str} {p : Pos} {y : Expr} {ys : List Expr} {ms : List ME} (F : FnFact X k x n (Γ f)) (hr : Room k X.A) (hg : Gl X x) (hdb : (x == ("__debug__" : Str)) = false) (gy : GoodE y) (gs : ∀ z ∈ ys, GoodE z)
    (a : SndA X (y :: ys) (mes ms)) : SndE X (.Call (.Name x p) (y :: ys) [] pos) (mcall Γ f ms) := by
  rcases F with ⟨hx, hm, G⟩ | ⟨hn, fa, fd, ps, hps, hm, hk, hb, G⟩
  · obtain ⟨t, pa, q⟩ := a
    refine ⟨_, pe_callBfun cr_gcd hg hm pa hdb (gy.ns _ _) (any_back pos _ gs), fun σ ρ ι h H E R d h' e Q ok => ?_⟩
    obtain ⟨ds, h1, e1, e⟩ := Res.bind_ok e
    refine q σ ρ ι h H E R _ _ e1 _ fun vs ι1 H1 L1 R1 r1 => ?_
    obtain ⟨a, b, rfl, rfl, rfl⟩ := G _ _ _ _ e
    cases r1 with | cons ra rt => cases rt with | cons rb rt => cases rt with | nil =>
    cases ra with | p ra => cases rb with | p rb => cases ra; cases rb; exact ⟨a, b, rfl, (ok.after L1).here R1 (.int _)⟩
  obtain ⟨t, pa, q⟩ := a
  refine ⟨_, pe_call G hr hg hm hk hb .nil pass0 pa hdb (gy.ns _ _) (any_back pos _ gs), fun σ ρ ι h H E R d h' e Q ok => ?_⟩
  obtain ⟨ds, h1, e1, e⟩ := Res.bind_ok e
  refine q σ ρ ι h H E R _ _ e1 _ fun vs ι1 H1 L1 R1 r1 => ?_
  show SpF X.K n (Γ f) (vs ++ []) H1 Q E0
  rw [List.append_nil]
  exact ⟨by rw [RDs.len r1]; exact hn _ _ _ _ e, ι1, _, _, R1, r1, d, h', e, ok.after L1⟩

/-! ### methods of lists -/
theorem cell_sq {K : PySem.W.Frag} {ι : Nat → Addr} {H : Hp} {h : Hh} {m : Nat} (R : Rp K ι h H) (hm : m < h.length) : ∃ xs, SqL K H (ι m) xs := by
  have q := R.cell m h[m] (List.getElem?_eq_getElem hm)
  cases e : h[m] with
  | lst ds => rw [e] at q; obtain ⟨vs, e1, _⟩ := q; exact ⟨vs, SqL.of e1⟩
  | rol ds => rw [e] at q; obtain ⟨vs, e1, _⟩ := q; exact ⟨vs, e1.sq⟩
/-- the receiver is a list -/
def isRef : D → Bool
  | .ref _ => true
  | _ => false
theorem mth_ref {m : Mth} {x : D} {ds : List D} {h h' : Hh} {d : D} (e : mthD m x ds h = .ok d h') : ∃ n, x = .ref n := by
  cases x with
  | ref n => exact ⟨n, rfl⟩
  | p z => cases m <;> (simp only [mthD, lm0, lm1] at e; cases e)
def noC0 : Expr → Bool
  | .Call (.Name _ _) [] [] _ => false
  | _ => true
theorem base_ok {o : Expr} (h : noC0 o = true) (name : Str) (env : Env) (w : Sem Value) : attributeBase o name env w = w := by
  unfold attributeBase
  split
  · exact absurd h Bool.false_ne_true
  · rfl
theorem snd_mth {id : String} {name : Str} {apos : Pos} {m : Mth} {o y : Expr} {ys : List Expr} {mo : ME} {ms : List ME} (slot : Slot "list" name id) (hty : typeOf (.builtin id) = pure (.type "method_descriptor")) (hm : MthS X id (mthD m))
    (ho : noC0 o = true) (hl : (apos.endLine == pos.line) = true) (hlen : (y :: ys).length < 29) (gy : GoodE y) (gs : ∀ z ∈ ys, GoodE z) (so : SndE X o mo) (sa : SndA X (y :: ys) (mes ms)) :
    SndE X (.Call (.Attribute o name apos) (y :: ys) [] pos) (mmth m mo ms) := by
  obtain ⟨r, hr, qm⟩ := hm
  obtain ⟨t, p, q⟩ := so
  obtain ⟨u, p', q'⟩ := sa
  have hfew : ((backTo pos (starEach (y :: ys) X.env)).all (fun x => !x.1) && (backToKw pos (keywordEach [] X.env)).all (fun x => x.1.isSome)
      && decide ((y :: ys).length + ([] : List Keyword).length + (if ([] : List Keyword).isEmpty then 0 else 1) < 30)) = true := by
    rw [all_back pos _ fun z hz => (List.mem_cons.mp hz).elim (fun e => e ▸ gy) (gs z)]
    rw [decide_eq_true (by simp only [List.isEmpty_nil, if_true, List.length_nil]; omega)]
    rfl
  refine ⟨_, pe_bm F.plainAttrs_list slot hty hr p p' (base_ok ho _ _ _) hfew hl (gy.ns _ _) (any_back pos _ gs), fun σ ρ ι h H E R d h' e Q ok => ?_⟩
  obtain ⟨d1, h1, e1, e⟩ := Res.bind_ok e
  obtain ⟨ds, h2, e2, e⟩ := Res.bind_ok e
  refine q σ ρ ι h H E R _ _ e1 _ fun v ι1 H1 L1 R1 r1 => ?_
  obtain ⟨n, rfl⟩ := mth_ref e
  refine ⟨?_, q' σ ρ ι1 _ H1 (E.mono L1) R1 _ _ e2 _ fun vs ι2 H2 L2 R2 r2 => ?_⟩
  · cases r1 with
    | ref hn => exact .inl ⟨rfl, cell_sq R1 hn⟩
  · exact qm ι2 _ H2 v vs _ _ R2 (r1.mono L2) r2 d h' e Q ((ok.after L1).after L2)
theorem snd_mth0 {id : String} {name : Str} {apos : Pos} {m : Mth} {o : Expr} {mo : ME} (slot : Slot "list" name id) (hty : typeOf (.builtin id) = pure (.type "method_descriptor")) (hm : MthS X id (mthD m))
    (ho : noC0 o = true) (hl : (apos.endLine == pos.line) = true) (so : SndE X o mo) : SndE X (.Call (.Attribute o name apos) [] [] pos) (mmth m mo []) := by
  obtain ⟨r, hr, qm⟩ := hm
  obtain ⟨t, p, q⟩ := so
  refine ⟨_, pe_bm0 F.plainAttrs_list slot hty hr p (base_ok ho _ _ _) hl, fun σ ρ ι h H E R d h' e Q ok => ?_⟩
  obtain ⟨d1, h1, e1, e⟩ := Res.bind_ok e
  obtain ⟨ds, h2, e2, e⟩ := Res.bind_ok e
  cases e2
  refine q σ ρ ι h H E R _ _ e1 _ fun v ι1 H1 L1 R1 r1 => ?_
  obtain ⟨n, rfl⟩ := mth_ref e
  refine ⟨?_, ?_⟩
  · cases r1 with
    | ref hn => exact .inl ⟨rfl, cell_sq R1 hn⟩
  · exact qm ι1 _ H1 v [] _ [] R1 r1 .nil d h' e Q (ok.after L1)

/-! ### what is walked -/
/-- the layer's walk and the clean one: at any later state -/
def SrcR (K : PySem.W.Frag) (ι : Nat → Addr) (h : Hh) (H : Hp) (J : It) (s : Src) : Prop :=
  ∀ ι' h' H', Later K ι h H ι' h' H' → Rp K ι' h' H' → ∀ j,
    (s.get j h' = some none → J.stop j H') ∧
    (∀ d, s.get j h' = some (some d) → J.go j H' ∧ ∀ x H'', J.yld j H' x H'' → ∃ ι'', Later K ι' h' H' ι'' h' H'' ∧ Rp K ι'' h' H'' ∧ RD K ι'' h'.length H'' x d)
def SndI (X : Cx) (tg iter : Expr) (m : MI) : Prop :=
  ∃ wi, PI X tg iter wi ∧ ∀ σ ρ ι h H, EnvR X.K ι h.length H σ ρ → Rp X.K ι h H → ∀ s h', m ρ h = .ok s h' → ∀ R : It → Hp → Prop,
    (∀ J ι' H', Later X.K ι h H ι' h' H' → Rp X.K ι' h' H' → SrcR X.K ι' h' H' J s → R J H') → wi σ H R
def iSeq (K : PySem.W.Frag) (tl : TE) : TI := fun σ H R => tl σ H fun x H1 => (∃ a, x = .ref a ∧ (∃ xs, SqL K H1 a xs) ∧ R (Itl K a) H1) ∨ ∃ a, x = .ref a ∧ (∃ xs, SqT K H1 a xs) ∧ R (Itt K a) H1
theorem pi_seq {l tg : Expr} {tl : TE} (hl : PE X l tl) : PI X tg l (iSeq X.K tl) := by
  refine ⟨fun pins s0 σ H R J h => ?_⟩
  refine thn (hl.run pins s0 σ H _ J h) fun u s1 hq => ?_
  obtain ⟨x, H1, J1, rx, hq⟩ := hq
  have new : ∀ b ∈ [s1.heap.objs.size], FpOk X pins H1 b := fun b hb => by
    rw [List.mem_singleton.mp hb]
    exact J1.fpOk (Nat.le_refl _) (J1.hok.fresh (Nat.le_refl _))
  have kept : ∀ (o : Obj) (b : Addr) (o' : Obj), s1.heap.get? b = some o' → (s1.heap.push o).get? b = some o' := fun o b o' q => Heap.get?_push_of_some _ q
  rcases hq with ⟨a, ea, ⟨xs, sq⟩, r⟩ | ⟨a, ea, ⟨xs, sq⟩, r⟩
  · subst ea
    cases rx
    obtain ⟨its, _, pl, _⟩ := J1.list sq
    exact wpAny_pyIter_list pl.isList ⟨_, _, _, _, H1, rfl, J1.kept (t' := s1.toks) (kept _), turn_list a _, ⟨_, Heap.get?_push_size _ rfl, rfl, rfl⟩, new, r⟩
  · subst ea
    cases rx
    obtain ⟨its, _, pl, _⟩ := J1.tuple sq
    exact wpAny_pyIter_tuple (show s1.heap.IsTuple a its.toArray from pl) ⟨_, _, _, _, H1, rfl, J1.kept (t' := s1.toks) (kept _), turn_tuple a _, ⟨_, Heap.get?_push_size _ rfl, rfl, rfl⟩, new, r⟩
theorem sndi_val {l tg : Expr} {m : ME} (s : SndE X l m) : SndI X tg l (mival m) := by
  obtain ⟨t, p, q⟩ := s
  refine ⟨_, pi_seq p, fun σ ρ ι h H E R s h' e Rr ok => ?_⟩
  obtain ⟨d1, h1, e1, e⟩ := Res.bind_ok e
  split at e
  · cases e
    refine q σ ρ ι h H E R _ _ e1 _ fun v ι1 H1 L1 R1 r1 => ?_
    cases r1 with | p r1 => cases r1 with | tup q1 r1 =>
    refine .inr ⟨_, rfl, ⟨_, q1⟩, ok _ ι1 H1 L1 R1 fun ι2 h2 H2 L2 R2 j => ⟨fun g => ?_, fun d g => ?_⟩⟩
    · have g' : (List.map D.p _)[j]? = none := Option.some.inj g
      rw [List.getElem?_eq_none_iff, List.length_map] at g'
      exact ⟨_, L2.tup _ _ q1, by rw [r1.len]; exact g'⟩
    · have g' : (List.map D.p _)[j]? = some d := Option.some.inj g
      rw [List.getElem?_map, Option.map_eq_some_iff] at g'
      obtain ⟨x, g1, g2⟩ := g'
      subst g2
      obtain ⟨w, e3, r3⟩ := r1.get g1
      refine ⟨⟨_, w, L2.tup _ _ q1, e3⟩, fun y H3 ⟨z1, z2⟩ => ?_⟩
      subst z1
      have z3 := z2 _ (L2.tup _ _ q1)
      rw [e3] at z3
      cases z3
      exact ⟨ι2, Later.refl, R2, .p (r3.mono L2.tup)⟩
  · rename_i m
    split at e
    · rename_i xs e2
      cases e
      refine q σ ρ ι h H E R _ _ e1 _ fun v ι1 H1 L1 R1 r1 => ?_
      cases r1 with | ref hm =>
      obtain ⟨_, vs, hv, rv⟩ := R1.seq e2
      refine .inl ⟨_, rfl, ⟨_, hv⟩, ok _ ι1 H1 L1 R1 fun ι2 h2 H2 L2 R2 j => ⟨fun g => ?_, fun d g => ?_⟩⟩
      · have g' : (match seqAt h2 m with | some xs => some xs[j]? | none => none) = some none := g
        split at g'
        · rename_i ys e3
          obtain ⟨_, ws, hw, rw'⟩ := R2.seq e3
          rw [L2.agree m hm] at hw
          have g1 : ys[j]? = none := Option.some.inj g'
          rw [List.getElem?_eq_none_iff] at g1
          exact ⟨_, hw, by rw [RDs.len rw']; exact g1⟩
        · cases g'
      · have g' : (match seqAt h2 m with | some xs => some xs[j]? | none => none) = some (some d) := g
        split at g'
        · rename_i ys e3
          obtain ⟨hm2, ws, hw, rw'⟩ := R2.seq e3
          rw [L2.agree m hm] at hw
          have g1 : ys[j]? = some d := Option.some.inj g'
          obtain ⟨w, e4, r4⟩ := RDs.get rw' g1
          refine ⟨⟨_, w, hw, e4⟩, fun y H3 ⟨z1, z2⟩ => ?_⟩
          subst z1
          have z3 := z2 _ hw
          rw [e4] at z3
          cases z3
          exact ⟨ι2, Later.refl, R2, r4.up (Nat.le_of_lt hm2)⟩
        · cases g'
    · cases e
  · cases e
theorem prg_pi_1 {tg a : Expr} {p : Pos} {m : ME} (hg : Gl X "range") (hm : X.mg "range" = none) (ga : GoodE a) (s : SndE X a m) : SndI X tg (.Call (.Name "range" p) [a] [] pos) (mirg (mr1 m)) := by
  obtain ⟨t, pa, q⟩ := s
  refine ⟨_, pi_range1 hg hm (pa_cons pa pa_nil (ga.ns _ _)) (ga.ns _ _), fun σ ρ ι h H E R s h' e Rr ok => ?_⟩
  obtain ⟨ab, h1, e1, e⟩ := Res.bind_ok e
  split at e
  · rename_i hz
    cases e
    obtain ⟨z1, z2, z3⟩ := rgOk_iff hz
    obtain ⟨d1, h2, e2, e1⟩ := Res.bind_ok e1
    split at e1
    · cases e1
      refine q σ ρ ι h H E R _ _ e2 _ fun v ι1 H1 L1 R1 r1 => ?_
      cases r1 with | p r1 =>
      cases r1
      rename_i j0
      refine ⟨j0, rfl, by omega, by omega, ok _ ι1 H1 L1 R1 fun ι2 h2 H2 L2 R2 j => ⟨fun g => ?_, fun d g => ?_⟩⟩
      · have g' : (if j < (j0 - 0).toNat then some (D.p (.int (0 + (j : Int)))) else none) = none := Option.some.inj g
        split at g'
        · cases g'
        · show j0.toNat ≤ j
          omega
      · have g' : (if j < (j0 - 0).toNat then some (D.p (.int (0 + (j : Int)))) else none) = some d := Option.some.inj g
        split at g'
        · cases g'
          refine ⟨by show j < j0.toNat; omega, fun y H3 ⟨w1, w2⟩ => ?_⟩
          subst w1 w2
          exact ⟨ι2, Later.refl, R2, .p (.int _)⟩
        · cases g'
    · cases e1
  · cases e
theorem prg_pi_2 {tg a b : Expr} {p : Pos} {m m' : ME} (hg : Gl X "range") (hm : X.mg "range" = none) (ga : GoodE a) (gb : GoodE b) (s : SndE X a m) (s' : SndE X b m') : SndI X tg (.Call (.Name "range" p) [a, b] [] pos) (mirg (mr2 m m')) := by
  obtain ⟨t, pa, q⟩ := s
  obtain ⟨t', pb, q'⟩ := s'
  refine ⟨_, pi_range2 hg hm (pa_cons pa (pa_cons pb pa_nil (gb.ns _ _)) (ga.ns _ _)) (by rw [ga.ns, gb.ns]; rfl) (gb.ns _ _), fun σ ρ ι h H E R s h' e Rr ok => ?_⟩
  obtain ⟨ab, h1, e1, e⟩ := Res.bind_ok e
  split at e
  · rename_i hz
    cases e
    obtain ⟨z1, z2, z3⟩ := rgOk_iff hz
    obtain ⟨d1, h2, e2, e1⟩ := Res.bind_ok e1
    obtain ⟨d2, h3, e3, e1⟩ := Res.bind_ok e1
    split at e1
    · rename_i i0 j0 _
      cases e1
      refine q σ ρ ι h H E R _ _ e2 _ fun v ι1 H1 L1 R1 r1 => ?_
      refine q' σ ρ ι1 _ H1 (E.mono L1) R1 _ _ e3 _ fun w ι3 H3 L3 R3 r3 => ?_
      cases r1 with | p r1 => cases r3 with | p r3 =>
      cases r1; cases r3
      refine ⟨i0, j0, rfl, ⟨by omega, by omega, by omega, by omega⟩, ok _ ι3 H3 (L1.trans L3) R3 fun ι2 h2 H2 L2 R2 j => ⟨fun g => ?_, fun d g => ?_⟩⟩
      · have g' : (if j < (j0 - i0).toNat then some (D.p (.int (i0 + (j : Int)))) else none) = none := Option.some.inj g
        split at g'
        · cases g'
        · show (j0 - i0).toNat ≤ j
          omega
      · have g' : (if j < (j0 - i0).toNat then some (D.p (.int (i0 + (j : Int)))) else none) = some d := Option.some.inj g
        split at g'
        · cases g'
          refine ⟨by show j < (j0 - i0).toNat; omega, fun y H3 ⟨w1, w2⟩ => ?_⟩
          subst w1 w2
          exact ⟨ι2, Later.refl, R2, .p (.int _)⟩
        · cases g'
    · cases e1
  · cases e

/-! ### targets -/
theorem wipe_in {σ : L2.St} {i : Nat} : ∀ {vs : List Nat}, i ∈ vs → i < σ.length → (L2.wipe σ vs)[i]? = some none
  | v :: vs, h, hl => by
    show ((L2.wipe σ vs).set v none)[i]? = some none
    by_cases e : v = i
    · subst e
      exact List.getElem?_set_self (by rw [wipe_length]; exact hl)
    · rw [List.getElem?_set_ne e]
      exact wipe_in ((List.mem_cons.mp h).resolve_left fun z => e z.symm) hl
theorem wipe_set {σ : L2.St} {i : Nat} {x : Option V} {vs : List Nat} (h : i ∈ vs) : L2.wipe (σ.set i x) vs = L2.wipe σ vs := by
  apply List.ext_getElem?
  intro j
  by_cases hj : j ∈ vs
  · by_cases hl : j < σ.length
    · rw [wipe_in hj hl, wipe_in hj (by simpa using hl)]
    · rw [List.getElem?_eq_none (by rw [wipe_length]; simpa using hl), List.getElem?_eq_none (by rw [wipe_length]; simpa using hl)]
  · rw [wipe_out hj, wipe_out hj, List.getElem?_set_ne (fun (e : i = j) => hj (by rw [← e]; exact h))]
def OkG (vs : List Nat) (σ : L2.St) (K : PySem.W.Frag) (ι : Nat → Addr) (h : Hh) (H : Hp) (ρ' : Ev) (h' : Hh) (Q : L2.St → Hp → Prop) : Prop :=
  ∀ σ' ι' H', Later K ι h H ι' h' H' → Rp K ι' h' H' → EnvR K ι' h'.length H' σ' ρ' → L2.wipe σ' vs = L2.wipe σ vs → Q σ' H'
def SndG (X : Cx) (vs : List Nat) (tg : Expr) (g : MG) : Prop :=
  ∃ t, PG X tg t ∧ ∀ σ ρ ι h H v d, EnvR X.K ι h.length H σ ρ → Rp X.K ι h H → RD X.K ι h.length H v d → ∀ ρ' h', g d ρ h = .ok ρ' h' → ∀ Q, OkG vs σ X.K ι h H ρ' h' Q → t v σ H Q
theorem sndg_nm {i : Nat} {x : Str} (hN : X.N.Nodup) (hi : X.N[i]? = some x) (hx : Loc X.env.scope x) (hf : X.fn x = true ∨ X.env.scope.names.lookup x = some .local) {ns : List Nat} (hv : i ∈ ns) : SndG X ns (.Name x pos) (gnm i) := by
  refine ⟨_, pg_name hN hi hx hf, fun σ ρ ι h H v d E R r ρ' h' e Q ok => ?_⟩
  unfold gnm at e
  split at e
  · cases e
    exact ok _ ι H Later.refl R (E.set r) (wipe_set hv)
  · cases e
def SndGs (X : Cx) (ns : List Nat) (ts : List Expr) (gs : List MG) : Prop :=
  ∃ t, PGs X ts t ∧ ∀ σ ρ ι h H vs ds, EnvR X.K ι h.length H σ ρ → Rp X.K ι h H → RDs X.K ι h.length H vs ds → ∀ ρ' h', gnms gs ds ρ h = .ok ρ' h' → ∀ Q, OkG ns σ X.K ι h H ρ' h' Q → t vs σ H Q
theorem sndgs_nil {ns : List Nat} : SndGs X ns [] [] := by
  refine ⟨_, pgs_nil, fun σ ρ ι h H vs ds E R r ρ' h' e Q ok => ?_⟩
  cases r with
  | nil =>
    cases e
    exact ⟨rfl, ok _ ι H Later.refl R E rfl⟩
  | cons r t => cases e
theorem sndgs_cons {ns : List Nat} {t : Expr} {ts : List Expr} {g : MG} {gs : List MG} (hs : (assignEach (t :: ts) X.env).map (·.2) = assign t X.env :: (assignEach ts X.env).map (·.2)) (a : SndG X ns t g) (b : SndGs X ns ts gs) : SndGs X ns (t :: ts) (g :: gs) := by
  obtain ⟨u, p, q⟩ := a
  obtain ⟨u', p', q'⟩ := b
  refine ⟨_, pgs_cons p p' hs, fun σ ρ ι h H vs ds E R r ρ' h' e Q ok => ?_⟩
  cases r with
  | nil => cases e
  | cons r t =>
    obtain ⟨ρ1, h1, e1, e⟩ := Res.bind_ok e
    refine ⟨_, _, rfl, q σ ρ ι h H _ _ E R r _ _ e1 _ fun σ1 ι1 H1 L1 R1 E1 W1 => ?_⟩
    exact q' σ1 ρ1 ι1 _ H1 _ _ E1 R1 (RDs.mono L1 t) _ _ e Q fun σ2 ι2 H2 L2 R2 E2 W2 => ok σ2 ι2 H2 (L1.trans L2) R2 E2 (W2.trans W1)
theorem gnms_len : ∀ {gs : List MG} {ds : List D} {ρ ρ' : Ev} {h h' : Hh}, gnms gs ds ρ h = .ok ρ' h' → ds.length = gs.length
  | [], [], _, _, _, _, _ => rfl
  | [], _ :: _, _, _, _, _, e => by cases e
  | _ :: _, [], _, _, _, _, e => by cases e
  | g :: gs, d :: ds, _, _, _, _, e => by
    obtain ⟨ρ1, h1, e1, e⟩ := Res.bind_ok e
    rw [List.length_cons, List.length_cons, gnms_len e]
theorem sndg_tup {ns : List Nat} {ts : List Expr} {gs : List MG} {k : Nat} (hc : X.calm = true) (hn : (assignEach ts X.env).length = gs.length) (hst : (assignEach ts X.env).findIdx? (·.1) = none) (a : SndGs X ns ts gs) : SndG X ns (.Tuple ts k pos) (gtup gs) := by
  obtain ⟨u, p, q⟩ := a
  have both : PG X (.Tuple ts k pos) (fun v σ H Q => gTup X.K gs.length u v σ H Q ∨ gUnl X.K gs.length u v σ H Q) := by
    refine ⟨fun pins s σ H v w Q I rw z => ?_⟩
    rcases z with z | z
    · exact (pg_tup hc p hn hst).run pins s σ H v w Q I rw z
    · exact (pg_unl hc p hn hst).run pins s σ H v w Q I rw z
  refine ⟨_, both, fun σ ρ ι h H v d E R r ρ' h' e Q ok => ?_⟩
  unfold gtup at e
  split at e
  · cases r with | p r => cases r with | tup q1 r1 =>
    have hl := gnms_len e
    rw [List.length_map] at hl
    exact .inl ⟨_, _, rfl, q1, by rw [r1.len]; exact hl, q σ ρ ι h H _ _ E R r1.rds _ _ e Q ok⟩
  · split at e
    · rename_i xs e1
      obtain ⟨hm, vs, hv, rv⟩ := R.seq e1
      have hl := gnms_len e
      cases r with | ref _ =>
      exact .inr ⟨_, _, rfl, hv, by rw [RDs.len rv]; exact hl, q σ ρ ι h H _ _ E R (rv.up (Nat.le_of_lt hm)) _ _ e Q ok⟩
    · cases e
  · cases e
theorem sndg_sub {ns : List Nat} {o i : Expr} {mo mi : ME} (hs : ∀ env v, assign (.Subscript o i pos) env v = (do
      let ov ← holding [v] (eval o env)
      let iv ← holding [v, ov] (eval i env)
      standAt pos
      holding [v, ov, iv] (setItem ov iv v)
      release [v, ov, iv] [])) (so : SndE X o mo) (si : SndE X i mi) : SndG X ns (.Subscript o i pos) (gsub mo mi) := by
  obtain ⟨u, p, q⟩ := so
  obtain ⟨u', p', q'⟩ := si
  refine ⟨_, pg_sub p p' set_list (hs _), fun σ ρ ι h H v d E R r ρ' h' e Q ok => ?_⟩
  obtain ⟨d1, h1, e1, e⟩ := Res.bind_ok e
  obtain ⟨d2, h2, e2, e⟩ := Res.bind_ok e
  obtain ⟨_, h3, e3, e⟩ := Res.bind_ok e
  cases e
  refine q σ ρ ι h H E R _ _ e1 _ fun w ι1 H1 L1 R1 r1 => ?_
  refine q' σ ρ ι1 _ H1 (E.mono L1) R1 _ _ e2 _ fun w2 ι2 H2 L2 R2 r2 => ?_
  exact set_ok R2 (r1.mono L2) r2 ((r.mono L1).mono L2) e3 fun ι3 H3 L3 R3 => ok σ ι3 H3 ((L1.trans L2).trans L3) R3 (((E.mono L1).mono L2).mono L3) rfl
end
end MP
end

section
set_option autoImplicit false
set_option linter.all false
set_option Elab.async false
set_option maxRecDepth 100000
set_option maxHeartbeats 4000000
/-! MPSnd7: list comprehensions. -/
namespace MP
open PySem PySem.Spec PyProof.Rows L2
section
variable {K : PySem.W.Frag} {ι ι' ι1 : Nat → Addr} {H H' H1 : Hp} {h h' h1 : Hh}
theorem wipe_wipe {σ : L2.St} {vs : List Nat} : L2.wipe (L2.wipe σ vs) vs = L2.wipe σ vs := by
  apply List.ext_getElem?
  intro j
  by_cases hj : j ∈ vs
  · by_cases hl : j < σ.length
    · rw [wipe_in hj (by rw [wipe_length]; exact hl), wipe_in hj hl]
    · rw [List.getElem?_eq_none (by rw [wipe_length, wipe_length]; omega), List.getElem?_eq_none (by rw [wipe_length]; omega)]
  · rw [wipe_out hj]
/-- an address that is no list of the clean heap -/
def Off (ι : Nat → Addr) (h : Hh) (p : Addr) : Prop := ∀ (i : Nat) (ds : List D), h[i]? = some (.lst ds) → ι i ≠ p
theorem Later.off {p : Addr} {us : List V} (l : Later K ι h H ι' h' H') (e : H p = some (.lst us)) (o : Off ι h p) : Off ι' h' p := fun i ds q => by
  by_cases hi : i < h.length
  · obtain ⟨es, q'⟩ := l.kind i ds hi q
    rw [l.agree i hi]
    exact o i es q'
  · intro z
    have := l.new i ds (by omega) q
    rw [z, e] at this
    cases this
theorem Rp.side {p : Addr} {us ws : List V} (R : Rp K ι h H) (e : H p = some (.lst us)) (o : Off ι h p) : Rp K ι h (upd H p (.lst ws)) := by
  have l : ∀ n, Lat K ι n H ι n (upd H p (.lst ws)) := fun n => ⟨Nat.le_refl _, fun _ _ => rfl, sqT_write e⟩
  refine ⟨R.inj, fun i c q => ?_⟩
  have z := R.cell i c q
  cases c with
  | lst ds =>
    obtain ⟨vs, e1, r1⟩ := z
    exact ⟨vs, by rw [upd_ne (o i ds q)]; exact e1, RDs.mono0 (l _) r1⟩
  | rol ds =>
    obtain ⟨vs, e1, r1⟩ := z
    exact ⟨vs, roL_write e _ _ e1, RDs.mono0 (l _) r1⟩
/-- from a state where p was free, p written -/
theorem Later.side {p : Addr} {us ws : List V} (l : Later K ι h H ι' h' H') (f : H p = none) (e : H' p = some (.lst us)) : Later K ι h H ι' h' (upd H' p (.lst ws)) := by
  refine ⟨⟨l.len, l.agree, fun a vs q => sqT_write e a vs (l.tup a vs q)⟩, fun a vs q ne => ?_, l.new, l.kind, fun a q => ?_⟩
  · rw [upd_ne (ne_of_none q f)]
    exact l.fr a vs q ne
  · by_cases ha : a = p
    · rw [ha]; exact f
    · rw [upd_ne ha] at q; exact l.live a q
/-- a list that stands already becomes the newest cell -/
theorem Rp.adopt {p : Addr} {us : List V} {ds : List D} (R : Rp K ι h H) (e : H p = some (.lst us)) (o : Off ι h p) (r : RDs K ι h.length H us ds) : Rp K (put ι h.length p) (h ++ [.lst ds]) H := by
  have ag : ∀ i, i < h.length → put ι h.length p i = ι i := fun i hi => put_ne (Nat.ne_of_lt hi)
  refine ⟨fun i j as bs e1 e2 e' => ?_, fun i c e1 => ?_⟩
  · rcases get_push e1 with ⟨h1, q1⟩ | ⟨h1, q1⟩ <;> rcases get_push e2 with ⟨h2, q2⟩ | ⟨h2, q2⟩
    · rw [ag i h1, ag j h2] at e'
      exact R.inj i j _ _ q1 q2 e'
    · subst h2
      rw [ag i h1, put_same] at e'
      exact absurd e' (o i _ q1)
    · subst h1
      rw [ag j h2, put_same] at e'
      exact absurd e'.symm (o j _ q2)
    · rw [h1, h2]
  · rcases get_push e1 with ⟨h1, q1⟩ | ⟨h1, q1⟩
    · rw [ag i h1]
      exact (R.cell i c q1).rename fun j hj => ag j (Nat.lt_trans hj h1)
    · subst h1 q1
      rw [put_same]
      exact ⟨us, e, RDs.mono0 ⟨Nat.le_refl _, ag, fun _ _ q => q⟩ r⟩
theorem Later.adopt {p : Addr} {ds : List D} (l : Later K ι h H ι' h' H') (f : H p = none) : Later K ι h H (put ι' h'.length p) (h' ++ [.lst ds]) H' := by
  have hl := l.len
  refine ⟨⟨by simp; omega, fun i hi => (put_ne (Nat.ne_of_lt (Nat.lt_of_lt_of_le hi hl))).trans (l.agree i hi), l.tup⟩, l.fr, fun i es hi e => ?_, fun i es hi e => ?_, l.live⟩
  · rcases get_push e with ⟨h1, q⟩ | ⟨h1, q⟩
    · rw [put_ne (Nat.ne_of_lt h1)]; exact l.new i es hi q
    · rw [h1, put_same]; exact f
  · rcases get_push e with ⟨h1, q⟩ | ⟨h1, q⟩
    · exact l.kind i es hi q
    · omega
theorem EnvR.wipe {n : Nat} {σ : L2.St} {ρ : Ev} (E : EnvR K ι n H σ ρ) : ∀ vs : List Nat, EnvR K ι n H (L2.wipe σ vs) (MP.wipe ρ vs)
  | [] => E
  | v :: vs => (EnvR.wipe E vs).unset
end
section
variable {X : Cx} {pos : Pos} {scope : Scope}
abbrev blkc (X : Cx) (scope : Scope) (s : Shared) (H : Hp) (C : Addr) (cl : List (Str × Addr)) (fp : List Addr) : Cx := X.blk s H scope (compEnvC scope cl C X.env) fp
theorem canonE {e : Expr} {m : ME} (f : ∀ s H C cl fp, SndE (blkc X scope s H C cl fp) e m) :
    ∃ t, (∀ s H C cl fp, PE (blkc X scope s H C cl fp) e t) ∧ ∀ σ ρ ι h H, EnvR X.K ι h.length H σ ρ → Rp X.K ι h H → ∀ d h', m ρ h = .ok d h' → ∀ Q, OkV X.K ι h H d h' Q → t σ H Q := by
  refine ⟨fun σ H Q => ∀ s H0 C cl fp, ∃ t', PE (blkc X scope s H0 C cl fp) e t' ∧ t' σ H Q, fun s H0 C cl fp => ⟨fun pins s1 σ H Q I z => ?_⟩, fun σ ρ ι h H E R d h' e' Q ok s H0 C cl fp => ?_⟩
  · obtain ⟨t', p, z'⟩ := z s H0 C cl fp
    exact p.run pins s1 σ H Q I z'
  · obtain ⟨t', p, q⟩ := f s H0 C cl fp
    exact ⟨t', p, q σ ρ ι h H E R d h' e' Q ok⟩
def SndTs (X : Cx) (ifs : List Expr) (m : MT) : Prop :=
  ∃ t, PTs X ifs t ∧ ∀ σ ρ ι h H, EnvR X.K ι h.length H σ ρ → Rp X.K ι h H → ∀ d h', m ρ h = .ok d h' → ∀ Q, OkB X.K ι h H d h' Q → t σ H Q
theorem sndts_nil : SndTs X [] myes := ⟨_, pts_nil, fun σ ρ ι h H E R d h' e Q ok => by cases e; exact ok.here R⟩
theorem sndts_one {c : Expr} {m : MT} (s : SndT X c m) : SndTs X [c] m := by
  obtain ⟨t, p, q⟩ := s
  exact ⟨t, pts_one p, q⟩
theorem canonT {ifs : List Expr} {m : MT} (f : ∀ s H C cl fp, SndTs (blkc X scope s H C cl fp) ifs m) :
    ∃ t, (∀ s H C cl fp, PTs (blkc X scope s H C cl fp) ifs t) ∧ ∀ σ ρ ι h H, EnvR X.K ι h.length H σ ρ → Rp X.K ι h H → ∀ d h', m ρ h = .ok d h' → ∀ Q, OkB X.K ι h H d h' Q → t σ H Q := by
  refine ⟨fun σ H Q => ∀ s H0 C cl fp, ∃ t', PTs (blkc X scope s H0 C cl fp) ifs t' ∧ t' σ H Q, fun s H0 C cl fp => ⟨fun pins s1 σ H Q I z => ?_⟩, fun σ ρ ι h H E R d h' e' Q ok s H0 C cl fp => ?_⟩
  · obtain ⟨t', p, z'⟩ := z s H0 C cl fp
    exact p.run pins s1 σ H Q I z'
  · obtain ⟨t', p, q⟩ := f s H0 C cl fp
    exact ⟨t', p, q σ ρ ι h H E R d h' e' Q ok⟩
theorem canonG {vs : List Nat} {tg : Expr} {g : MG} (f : ∀ s H C cl fp, SndG (blkc X scope s H C cl fp) vs tg g) :
    ∃ t, (∀ s H C cl fp, PG (blkc X scope s H C cl fp) tg t) ∧ ∀ σ ρ ι h H v d, EnvR X.K ι h.length H σ ρ → Rp X.K ι h H → RD X.K ι h.length H v d → ∀ ρ' h', g d ρ h = .ok ρ' h' → ∀ Q, OkG vs σ X.K ι h H ρ' h' Q → t v σ H Q := by
  refine ⟨fun v σ H Q => ∀ s H0 C cl fp, ∃ t', PG (blkc X scope s H0 C cl fp) tg t' ∧ t' v σ H Q, fun s H0 C cl fp => ⟨fun pins s1 σ H v u Q I r z => ?_⟩, fun σ ρ ι h H v d E R r ρ' h' e' Q ok s H0 C cl fp => ?_⟩
  · obtain ⟨t', p, z'⟩ := z s H0 C cl fp
    exact p.run pins s1 σ H v u Q I r z'
  · obtain ⟨t', p, q⟩ := f s H0 C cl fp
    exact ⟨t', p, q σ ρ ι h H v d E R r ρ' h' e' Q ok⟩
/-- what the loop of a comprehension says -/
theorem lc_sem {wi : TI} {g : TG} {tt : TT} {te : TE} {vs : List Nat} {mi : MI} {mg : MG} {mt : MT} {me : ME}
    (qi : ∀ σ ρ ι h H, EnvR X.K ι h.length H σ ρ → Rp X.K ι h H → ∀ s h', mi ρ h = .ok s h' → ∀ R : It → Hp → Prop, (∀ J ι' H', Later X.K ι h H ι' h' H' → Rp X.K ι' h' H' → SrcR X.K ι' h' H' J s → R J H') → wi σ H R)
    (qg : ∀ σ ρ ι h H v d, EnvR X.K ι h.length H σ ρ → Rp X.K ι h H → RD X.K ι h.length H v d → ∀ ρ' h', mg d ρ h = .ok ρ' h' → ∀ Q, OkG vs σ X.K ι h H ρ' h' Q → g v σ H Q)
    (qt : ∀ σ ρ ι h H, EnvR X.K ι h.length H σ ρ → Rp X.K ι h H → ∀ d h', mt ρ h = .ok d h' → ∀ Q, OkB X.K ι h H d h' Q → tt σ H Q)
    (qe : ∀ σ ρ ι h H, EnvR X.K ι h.length H σ ρ → Rp X.K ι h H → ∀ d h', (mgc me) ρ h = .ok d h' → ∀ Q, OkV X.K ι h H d h' Q → te σ H Q)
    (σ : L2.St) (ρ : Ev) (ι : Nat → Addr) (h : Hh) (H : Hp) (E : EnvR X.K ι h.length H σ ρ) (R : Rp X.K ι h H) (d : D) (h' : Hh) (e : mlc mi mg mt me vs ρ h = .ok d h') (Q : VK) (ok : OkV X.K ι h H d h' Q) : tLc wi g tt te vs σ H Q := by
  obtain ⟨s, h1, e1, e⟩ := Res.bind_ok e
  obtain ⟨accF, h2, e2, e⟩ := Res.bind_ok e
  cases e
  refine qi σ ρ ι h H E R s h1 e1 _ fun J ι1 H1 L1 R1 SJ => ?_
  intro p hp
  have EW : EnvR X.K ι1 h1.length H1 (L2.wipe σ vs) (MP.wipe ρ vs) := (E.mono L1).wipe vs
  refine ⟨fun i m H2 => ∃ ιx hx acc us, Later X.K ι1 h1 H1 ιx hx H2 ∧ Rp X.K ιx hx H2 ∧ H2 p = some (.lst us) ∧ RDs X.K ιx hx.length H2 us acc ∧ Off ιx hx p ∧ lcG s mg mt me (MP.wipe ρ vs) m i acc hx = .ok accF h2,
    ⟨s.bound + 1, ι1, h1, [], [], Later.alloc hp, R1.alloc hp, upd_same, .nil, fun i ds q z => ?_, e2⟩, ?_⟩
  · obtain ⟨ws, q1, _⟩ := R1.cell i _ q
    rw [z, hp] at q1
    cases q1
  · rintro i m H2 ⟨ιx, hx, acc, us, Lx, Rx, hp2, ra, off, run⟩
    cases m with
    | zero => cases run
    | succ m =>
      unfold lcG at run
      obtain ⟨sj1, sj2⟩ := SJ ιx hx H2 Lx Rx i
      split at run
      · cases run
      · rename_i hs
        cases run
        exact .inl ⟨sj1 hs, ok _ _ _ ((L1.trans Lx).adopt (L1.live p hp)) (Rx.adopt hp2 off ra) (by
          have z : RD X.K (put ιx h2.length p) (h2 ++ [Cell.lst accF]).length H2 (.ref (put ιx h2.length p h2.length)) (.ref h2.length) := .ref (by simp)
          rw [put_same] at z
          exact z)⟩
      · rename_i x hs
        obtain ⟨hgo, hy⟩ := sj2 x hs
        refine .inr ⟨hgo, fun H' => ∃ ιx hx acc us, Later X.K ι1 h1 H1 ιx hx H' ∧ Rp X.K ιx hx H' ∧ H' p = some (.lst us) ∧ RDs X.K ιx hx.length H' us acc ∧ Off ιx hx p ∧ lcG s mg mt me (MP.wipe ρ vs) m (i + 1) acc hx = .ok accF h2,
          fun H' z => ⟨m, Nat.lt_succ_self m, z⟩, fun v H3 hv => ?_⟩
        obtain ⟨ι3, L3, R3, r3⟩ := hy v H3 hv
        split at run
        · rename_i ρ4 h4 e4
          have EW3 := (EW.mono Lx).mono L3
          refine qg _ _ ι3 hx H3 v x EW3 R3 r3 ρ4 h4 e4 _ fun σ4 ι4 H4 L4 R4 E4 W4 => ⟨W4.trans wipe_wipe, ?_⟩
          have L34 := L3.trans L4
          have go : ∀ {b : Bool} {h5 : Hh} (Q5 : Bool → Hp → Prop), (mgcT mt) ρ4 h4 = .ok b h5 → (∀ ι5 H5, Later X.K ι4 h4 H4 ι5 h5 H5 → Rp X.K ι5 h5 H5 → Q5 b H5) → tt σ4 H4 Q5 := fun {b h5} Q5 e5 k => by
            obtain ⟨b', h6, e6, e7⟩ := Res.bind_ok e5
            cases e7
            exact qt σ4 ρ4 ι4 h4 H4 E4 R4 _ _ e6 _ fun ι5 H5 L5 R5 => k ι5 H5 (L5.take rfl) (R5.take _)
          split at run
          · rename_i h5 e5
            refine go _ e5 fun ι5 H5 L5 R5 => ?_
            show (if true = true then _ else _)
            rw [if_pos rfl]
            split at run
            · rename_i y h6 e6
              split at run
              · rename_i hz
                refine qe σ4 ρ4 ι5 h5 H5 (E4.mono L5) R5 y h6 e6 _ fun w ι6 H6 L6 R6 r6 => ?_
                have L36 := (L34.trans L5).trans L6
                have h3p : H3 p = some (.lst us) := L3.fr p us hp2 off
                have h6p : H6 p = some (.lst us) := L36.fr p us hp2 off
                have o6 : Off ι6 h6 p := L36.off hp2 off
                have r7 := RDs.snoc (RDs.mono L36 ra) r6
                have l7 : Lat X.K ι6 h6.length H6 ι6 h6.length (upd H6 p (.lst (us ++ [w]))) := ⟨Nat.le_refl _, fun _ _ => rfl, sqT_write h6p⟩
                exact ⟨us, h6p, by rw [RDs.len ra]; exact hz, ι6, h6, acc ++ [y], us ++ [w], (Lx.trans L36).side hp h6p, R6.side h6p o6, upd_same, RDs.mono0 l7 r7, o6, run⟩
              · cases run
            · cases run
          · rename_i h5 e5
            refine go _ e5 fun ι5 H5 L5 R5 => ?_
            show (if false = true then _ else _)
            rw [if_neg Bool.false_ne_true]
            have L35 := L34.trans L5
            have h5p : H5 p = some (.lst us) := L35.fr p us hp2 off
            exact ⟨ι5, h5, acc, us, Lx.trans L35, R5, h5p, RDs.mono L35 ra, L35.off hp2 off, run⟩
          · cases run
        · cases run
theorem snd_lc {tg iter elt : Expr} {ifs : List Expr} {own : List (Str × Nat)} {mi : MI} {mg : MG} {mt : MT} {me : ME} (hc : X.calm = true) (hN : X.N.Nodup) (si : SndI X tg iter mi) (ok : BlkOk X.N X.env.scope scope own) (gi : GoodE iter)
    (sg : ∀ s H C cl fp, SndG (blkc X scope s H C cl fp) (own.map (·.2)) tg mg) (st : ∀ s H C cl fp, SndTs (blkc X scope s H C cl fp) ifs mt) (se : ∀ s H C cl fp, SndE (blkc X scope s H C cl fp) elt me) :
    SndE X (.ListComp elt [⟨tg, iter, ifs, 0⟩] scope pos) (mlc mi mg mt me (own.map (·.2))) := by
  obtain ⟨wi, pi, qi⟩ := si
  obtain ⟨g, pg, qg⟩ := canonG sg
  obtain ⟨t, pt, qt⟩ := canonT st
  obtain ⟨te, pe, qe⟩ := canonE fun s H C cl fp => snd_gc (se s H C cl fp)
  exact ⟨_, pe_lc hc hN pi ok pg pt pe (gi.fs _), lc_sem qi qg qt qe⟩
end
end MP
end

section
set_option autoImplicit false
set_option linter.all false
set_option Elab.async false
set_option maxRecDepth 100000
set_option maxHeartbeats 4000000
/-! MPSnd8: statements and functions. -/
namespace MP
open PySem PySem.Spec PyProof.Rows L2
def OkO (K : PySem.W.Frag) (ι : Nat → Addr) (h : Hh) (H : Hp) (o : Out) (D : Ends) : Prop :=
  match o with
  | .nx ρ' h' => ∀ σ' ι' H', Later K ι h H ι' h' H' → Rp K ι' h' H' → EnvR K ι' h'.length H' σ' ρ' → D.nx σ' H'
  | .rt d h' => ∀ v ι' H', Later K ι h H ι' h' H' → Rp K ι' h' H' → RD K ι' h'.length H' v d → D.rt v H'
  | .bk ρ' h' => ∀ σ' ι' H', Later K ι h H ι' h' H' → Rp K ι' h' H' → EnvR K ι' h'.length H' σ' ρ' → D.bk σ' H'
  | .ct ρ' h' => ∀ σ' ι' H', Later K ι h H ι' h' H' → Rp K ι' h' H' → EnvR K ι' h'.length H' σ' ρ' → D.ct σ' H'
  | .exc _ _ => False
  | .stuck => False
section
variable {K : PySem.W.Frag} {ι ι' ι1 : Nat → Addr} {H H' H1 : Hp} {h h' h1 : Hh} {D : Ends}
theorem OkO.after {o : Out} (ok : OkO K ι h H o D) (l : Later K ι h H ι1 h1 H1) : OkO K ι1 h1 H1 o D := by
  cases o with
  | nx ρ' h' => exact fun σ' ι' H' l' => ok σ' ι' H' (l.trans l')
  | rt d h' => exact fun v ι' H' l' => ok v ι' H' (l.trans l')
  | bk ρ' h' => exact fun σ' ι' H' l' => ok σ' ι' H' (l.trans l')
  | ct ρ' h' => exact fun σ' ι' H' l' => ok σ' ι' H' (l.trans l')
  | exc x h' => exact ok
  | stuck => exact ok
theorem OkO.out {α : Type} {r : Res α} {k : α → Hh → Out} (ok : OkO K ι h H (r.out k) D) : ∃ a h1, r = .ok a h1 ∧ OkO K ι h H (k a h1) D := by
  cases r with
  | ok a h1 => exact ⟨a, h1, rfl, ok⟩
  | exc x h1 => exact ok.elim
  | stuck => exact ok.elim
end
abbrev SemE (K : PySem.W.Frag) (t : TE) (m : ME) : Prop := ∀ σ ρ ι h H, EnvR K ι h.length H σ ρ → Rp K ι h H → ∀ d h', m ρ h = .ok d h' → ∀ Q, OkV K ι h H d h' Q → t σ H Q
theorem gc_sem {K : PySem.W.Frag} {t : TE} {m : ME} (q : SemE K t m) : SemE K t (mgc m) := by
  intro σ ρ ι h H E R d h' e Q ok
  obtain ⟨d1, h1, e1, e2⟩ := Res.bind_ok e
  refine q σ ρ ι h H E R d1 h1 e1 Q fun v ι' H' L R' r => ?_
  obtain ⟨ι2, L2, R2, r2⟩ := gcv_ok rfl R' r L e2
  exact ok v ι2 H' L2 R2 r2
def SndS (X : Cx) (st : Stmt) (m : MS) : Prop :=
  ∃ t, PS X st t ∧ ∀ σ ρ ι h H, EnvR X.K ι h.length H σ ρ → Rp X.K ι h H → ∀ D, OkO X.K ι h H (m ρ h) D → t D σ H
def SndSs (X : Cx) (st : List Stmt) (m : MS) : Prop :=
  ∃ t, PSs X st t ∧ ∀ σ ρ ι h H, EnvR X.K ι h.length H σ ρ → Rp X.K ι h H → ∀ D, OkO X.K ι h H (m ρ h) D → t D σ H
section
variable {X : Cx} {pos : Pos}
theorem ss_nil : SndSs X [] sskip := ⟨_, pss_nil, fun σ ρ ι h H E R D ok => ok σ ι H Later.refl R E⟩
theorem ss_cons {st : Stmt} {sts : List Stmt} {m : MS} {m' : MS} (a : SndS X st m) (b : SndSs X sts m') : SndSs X (st :: sts) (sseq m m') := by
  obtain ⟨t, p, q⟩ := a
  obtain ⟨t', p', q'⟩ := b
  refine ⟨_, pss_cons p p', fun σ ρ ι h H E R D ok => ?_⟩
  show t { D with nx := t' D } σ H
  refine q σ ρ ι h H E R _ ?_
  unfold sseq at ok
  cases e : m ρ h with
  | nx ρ1 h1 =>
    rw [e] at ok
    exact fun σ1 ι1 H1 L1 R1 E1 => q' σ1 ρ1 ι1 h1 H1 E1 R1 D (OkO.after ok L1)
  | rt d h' => rw [e] at ok; exact ok
  | bk ρ1 h1 => rw [e] at ok; exact ok
  | ct ρ1 h1 => rw [e] at ok; exact ok
  | exc x h' => rw [e] at ok; exact ok
  | stuck => rw [e] at ok; exact ok
theorem ss_set {i : Nat} {x : Str} {e : Expr} {m : ME} {p' : Pos} (hN : X.N.Nodup) (hi : X.N[i]? = some x) (hx : Loc X.env.scope x) (hf : X.fn x = true ∨ X.env.scope.names.lookup x = some .local) (hs : swapsWith e (some (.Name x p')) pos.line X.env = pure false)
    (s : SndE X e m) : SndS X (.Assign [.Name x p'] e pos) (sasg (gnm i) m) := by
  obtain ⟨t, p, q⟩ := s
  refine ⟨_, ps_set hN hi hx p hs hf, fun σ ρ ι h H E R D ok => ?_⟩
  obtain ⟨d, h1, e1, ok⟩ := OkO.out ok
  obtain ⟨ρ1, h2, e2, ok⟩ := OkO.out ok
  refine gc_sem q σ ρ ι h H E R d h1 e1 _ fun v ι1 H1 L1 R1 r1 => ?_
  unfold gnm at e2
  split at e2
  · cases e2
    exact ok _ ι1 H1 L1 R1 ((E.mono L1).set r1)
  · cases e2
theorem ss_asg {vs : List Nat} {tg e : Expr} {m : ME} {g : MG} (hs : swapsWithSole [tg] e pos.line X.env = pure false) (hw : swappedStores [tg] e X.env = pure none)
    (ha : (assignEach [tg] X.env).map (·.2) = [assign tg X.env]) (s : SndE X e m) (sg : SndG X vs tg g) : SndS X (.Assign [tg] e pos) (sasg g m) := by
  obtain ⟨t, p, q⟩ := s
  obtain ⟨u, p', q'⟩ := sg
  refine ⟨_, ps_asg p p' hs hw ha, fun σ ρ ι h H E R D ok => ?_⟩
  obtain ⟨d, h1, e1, ok⟩ := OkO.out ok
  obtain ⟨ρ1, h2, e2, ok⟩ := OkO.out ok
  refine gc_sem q σ ρ ι h H E R d h1 e1 _ fun v ι1 H1 L1 R1 r1 => ?_
  exact q' σ ρ ι1 h1 H1 v d (E.mono L1) R1 r1 ρ1 h2 e2 _ fun σ2 ι2 H2 L2 R2 E2 _ => ok σ2 ι2 H2 (L1.trans L2) R2 E2
theorem ss_setLc {scope : Scope} {lpos : Pos} {i : Nat} {y : Str} {py : Pos} {tg iter elt : Expr} {ifs : List Expr} {own : List (Str × Nat)} {mi : MI} {mg : MG} {mt : MT} {me : ME} (hc : X.calm = true) (hN : X.N.Nodup)
    (hy : X.N[i]? = some y) (hyl : X.env.scope.names.lookup y = some .local) (hsw : swapsWith (.ListComp elt [⟨tg, iter, ifs, 0⟩] scope lpos) (some (.Name y py)) pos.line X.env = pure true)
    (si : SndI X tg iter mi) (ok : BlkOk X.N X.env.scope scope own) (gi : GoodE iter)
    (sg : ∀ s H C cl fp, SndG (blkc X scope s H C cl fp) (own.map (·.2)) tg mg) (st : ∀ s H C cl fp, SndTs (blkc X scope s H C cl fp) ifs mt) (se : ∀ s H C cl fp, SndE (blkc X scope s H C cl fp) elt me) :
    SndS X (.Assign [.Name y py] (.ListComp elt [⟨tg, iter, ifs, 0⟩] scope lpos) pos) (sasg (gnm i) (mlc mi mg mt me (own.map (·.2)))) := by
  obtain ⟨wi, pi, qi⟩ := si
  obtain ⟨g, pg, qg⟩ := canonG sg
  obtain ⟨t, pt, qt⟩ := canonT st
  obtain ⟨te, pe, qe⟩ := canonE fun s H C cl fp => snd_gc (se s H C cl fp)
  refine ⟨_, ps_setLc hc hN hy hyl hsw pi ok pg pt pe (gi.fs _), fun σ ρ ι h H E R D ok => ?_⟩
  obtain ⟨d, h1, e1, ok⟩ := OkO.out ok
  obtain ⟨ρ1, h2, e2, ok⟩ := OkO.out ok
  refine gc_sem (lc_sem qi qg qt qe) σ ρ ι h H E R d h1 e1 _ fun v ι1 H1 L1 R1 r1 => ?_
  unfold gnm at e2
  split at e2
  · cases e2
    exact ok _ ι1 H1 L1 R1 ((E.mono L1).set r1)
  · cases e2
theorem ss_aug {sub : Bool} {i : Nat} {x : Str} {e : Expr} {m : ME} {p' : Pos} (hN : X.N.Nodup) (hi : X.N[i]? = some x) (hx : Loc X.env.scope x) (hf : X.fn x = true ∨ X.env.scope.names.lookup x = some .local)
    (s : SndE X e m) : SndS X (.AugAssign (.Name x p') (if sub then .Sub else .Add) e pos) (saug sub i m) := by
  obtain ⟨t, p, q⟩ := s
  have ho : PIp X (if sub then .Sub else .Add) (ipI fun i j => if sub then i - j else i + j) := by
    cases sub with
    | true => exact ip_sub
    | false => exact ip_add
  refine ⟨_, ps_aug hN hi hx p ho hf, fun σ ρ ι h H E R D ok => ?_⟩
  unfold saug at ok
  split at ok
  · rename_i x0 ex
    obtain ⟨d, h1, e1, ok⟩ := OkO.out ok
    obtain ⟨v0, e0, r0⟩ := E.get _ _ ex
    cases r0 with | p r0 =>
    cases r0
    refine ⟨_, e0, gc_sem q σ ρ ι h H E R d h1 e1 _ fun v ι1 H1 L1 R1 r1 => ?_⟩
    split at ok
    · cases r1 with | p r1 =>
      cases r1
      exact ⟨_, _, rfl, rfl, ok _ ι1 H1 L1 R1 ((E.mono L1).set (.p (.int _)))⟩
    · exact ok.elim
  · exact ok.elim
theorem ss_expr {e : Expr} {m : ME} (hs : swapsWith e none pos.line X.env = pure false) (s : SndE X e m) : SndS X (.Expr e pos) (sexp m) := by
  obtain ⟨t, p, q⟩ := s
  refine ⟨_, ps_expr p hs, fun σ ρ ι h H E R D ok => ?_⟩
  obtain ⟨d, h1, e1, ok⟩ := OkO.out ok
  exact gc_sem q σ ρ ι h H E R d h1 e1 _ fun v ι1 H1 L1 R1 r1 => ok σ ι1 H1 L1 R1 (E.mono L1)
theorem ss_ret {e : Expr} {m : ME} (s : SndE X e m) : SndS X (.Return (some e) pos) (sret m) := by
  obtain ⟨t, p, q⟩ := s
  refine ⟨_, ps_ret p, fun σ ρ ι h H E R D ok => ?_⟩
  obtain ⟨d, h1, e1, ok⟩ := OkO.out ok
  exact gc_sem q σ ρ ι h H E R d h1 e1 _ fun v ι1 H1 L1 R1 r1 => ok v ι1 H1 L1 R1 r1
theorem ss_retN : SndS X (.Return none pos) sretN := ⟨_, ps_retN, fun σ ρ ι h H E R D ok => ok .non ι H Later.refl R (.p .non)⟩
theorem ss_pass : SndS X (.Pass pos) sskip := ⟨_, ps_pass, fun σ ρ ι h H E R D ok => ok σ ι H Later.refl R E⟩
theorem ss_brk : SndS X (.Break pos) sbrk := ⟨_, ps_break, fun σ ρ ι h H E R D ok => ok σ ι H Later.refl R E⟩
theorem ss_cnt : SndS X (.Continue pos) scnt := ⟨_, ps_continue, fun σ ρ ι h H E R D ok => ok σ ι H Later.refl R E⟩
theorem gcT_sem {K : PySem.W.Frag} {t : TT} {m : MT} (q : ∀ σ ρ ι h H, EnvR K ι h.length H σ ρ → Rp K ι h H → ∀ d h', m ρ h = .ok d h' → ∀ Q, OkB K ι h H d h' Q → t σ H Q) :
    ∀ σ ρ ι h H, EnvR K ι h.length H σ ρ → Rp K ι h H → ∀ d h', mgcT m ρ h = .ok d h' → ∀ Q, OkB K ι h H d h' Q → t σ H Q := by
  intro σ ρ ι h H E R d h' e Q ok
  obtain ⟨b, h1, e1, e2⟩ := Res.bind_ok e
  cases e2
  exact q σ ρ ι h H E R _ _ e1 Q fun ι1 H1 L1 R1 => ok ι1 H1 (L1.take rfl) (R1.take _)
theorem ss_if {c : Expr} {a b : List Stmt} {mc : MT} {ma mb : MS} (s : SndT X c mc) (sa : SndSs X a ma) (sb : SndSs X b mb) : SndS X (.If c a b pos) (sif mc ma mb) := by
  obtain ⟨t, p, q⟩ := s
  obtain ⟨t1, p1, q1⟩ := sa
  obtain ⟨t2, p2, q2⟩ := sb
  refine ⟨_, ps_if p p1 p2, fun σ ρ ι h H E R D ok => ?_⟩
  obtain ⟨k, h1, e1, ok⟩ := OkO.out ok
  refine gcT_sem q σ ρ ι h H E R k h1 e1 _ fun ι1 H1 L1 R1 => ?_
  cases k with
  | true => rw [if_pos rfl] at ok ⊢; exact q1 σ ρ ι1 h1 H1 (E.mono L1) R1 D (OkO.after ok L1)
  | false => rw [if_neg Bool.false_ne_true] at ok ⊢; exact q2 σ ρ ι1 h1 H1 (E.mono L1) R1 D (OkO.after ok L1)
theorem ss_while {c : Expr} {b : List Stmt} {mc : MT} {mb : MS} (hx : X.xe = fun _ _ => False) (s : SndT X c mc) (sb : SndSs X b mb) : SndS X (.While c b [] pos) (swhile mc mb) := by
  obtain ⟨t, p, q⟩ := s
  obtain ⟨t1, p1, q1⟩ := sb
  refine ⟨_, ps_while (by rw [hx]; exact PassesOwn.never) p p1, fun σ ρ ι h H E R D ok => ?_⟩
  refine ⟨fun m σ2 H2 => ∃ ρ2 ι2 h2, Later X.K ι h H ι2 h2 H2 ∧ Rp X.K ι2 h2 H2 ∧ EnvR X.K ι2 h2.length H2 σ2 ρ2 ∧ OkO X.K ι h H (whG mc mb m ρ2 h2) D, ⟨wfuel, ρ, ι, h, Later.refl, R, E, ok⟩, ?_⟩
  rintro m σ2 H2 ⟨ρ2, ι2, h2, L2, R2, E2, ok2⟩
  cases m with
  | zero => exact ok2.elim
  | succ m =>
    unfold whG at ok2
    obtain ⟨k, h3, e3, ok3⟩ := OkO.out ok2
    refine gcT_sem q σ2 ρ2 ι2 h2 H2 E2 R2 k h3 e3 _ fun ι3 H3 L3 R3 => ?_
    cases k with
    | false =>
      rw [if_neg Bool.false_ne_true] at ok3 ⊢
      exact ok3 σ2 ι3 H3 (L2.trans L3) R3 (E2.mono L3)
    | true =>
      rw [if_pos rfl] at ok3 ⊢
      refine ⟨fun σ4 H4 => ∃ ρ4 ι4 h4, Later X.K ι h H ι4 h4 H4 ∧ Rp X.K ι4 h4 H4 ∧ EnvR X.K ι4 h4.length H4 σ4 ρ4 ∧ OkO X.K ι h H (whG mc mb m ρ4 h4) D, fun σ4 H4 z => ⟨m, Nat.lt_succ_self m, z⟩, ?_⟩
      refine q1 σ2 ρ2 ι3 h3 H3 (E2.mono L3) R3 _ ?_
      cases e : mb ρ2 h3 with
      | nx ρ4 h4 =>
        rw [e] at ok3
        exact fun σ4 ι4 H4 L4 R4 E4 => ⟨ρ4, ι4, h4, (L2.trans L3).trans L4, R4, E4, ok3⟩
      | ct ρ4 h4 =>
        rw [e] at ok3
        exact fun σ4 ι4 H4 L4 R4 E4 => ⟨ρ4, ι4, h4, (L2.trans L3).trans L4, R4, E4, ok3⟩
      | bk ρ4 h4 =>
        rw [e] at ok3
        exact fun σ4 ι4 H4 L4 R4 E4 => ok3 σ4 ι4 H4 ((L2.trans L3).trans L4) R4 E4
      | rt d h4 =>
        rw [e] at ok3
        exact fun v ι4 H4 L4 R4 r4 => ok3 v ι4 H4 ((L2.trans L3).trans L4) R4 r4
      | exc x h4 => rw [e] at ok3; exact ok3
      | stuck => rw [e] at ok3; exact ok3
theorem EnvR.low {K : PySem.W.Frag} {ι : Nat → Addr} {n m : Nat} {H : Hp} {σ : L2.St} {ρ : Ev} (E : EnvR K ι n H σ ρ) (hb : ρ.all (oBelow m) = true) : EnvR K ι m H σ ρ := ⟨E.len, fun i d e => by
  obtain ⟨v, h1, h2⟩ := E.get i d e
  exact ⟨v, h1, h2.low (List.all_eq_true.mp hb _ (List.mem_of_getElem? e))⟩⟩
theorem gce_ok {K : PySem.W.Frag} {ι ι' : Nat → Addr} {H H' : Hp} {h h' : Hh} {σ : L2.St} {ρ : Ev} (L : Later K ι h H ι' h' H') (R : Rp K ι' h' H') (E : EnvR K ι' h'.length H' σ ρ) :
    Later K ι h H ι' (gce h.length ρ h') H' ∧ Rp K ι' (gce h.length ρ h') H' ∧ EnvR K ι' (gce h.length ρ h').length H' σ ρ := by
  unfold gce
  split
  · rename_i hb
    refine ⟨L.take rfl, R.take _, ?_⟩
    have hl : (h'.take h.length).length = h.length := by rw [List.length_take]; have := L.len; omega
    rw [hl]
    exact E.low hb
  · exact ⟨L, R, E⟩
theorem ss_for {vs : List Nat} {tg iter : Expr} {b : List Stmt} {mi : MI} {mg : MG} {mb : MS} (hx : X.xe = fun _ _ => False) (hc : X.calm = true) (gi : GoodE iter) (si : SndI X tg iter mi) (sg : SndG X vs tg mg) (sb : SndSs X b mb) :
    SndS X (.For tg iter b [] pos) (sfor mi mg mb) := by
  obtain ⟨wi, p, q⟩ := si
  obtain ⟨g, pg, qg⟩ := sg
  obtain ⟨t1, p1, q1⟩ := sb
  refine ⟨_, ps_for (by rw [hx]; exact PassesOwn.never) hc p pg p1 (gi.fs _), fun σ ρ ι h H E R D ok => ?_⟩
  unfold sfor at ok
  cases e1 : mi ρ h with
  | exc x h1 => rw [e1] at ok; exact ok.elim
  | stuck => rw [e1] at ok; exact ok.elim
  | ok s h1 =>
    rw [e1] at ok
    have ok : OkO X.K ι h H (gcO h.length (foG s mg mb (s.bound + 1) 0 ρ h1)) D := ok
    refine q σ ρ ι h H E R s h1 e1 _ fun J ι1 H1 L1 R1 SJ => ?_
    refine ⟨fun i m σ2 H2 => ∃ ρ2 ι2 h2, Later X.K ι1 h1 H1 ι2 h2 H2 ∧ Rp X.K ι2 h2 H2 ∧ EnvR X.K ι2 h2.length H2 σ2 ρ2 ∧ OkO X.K ι h H (gcO h.length (foG s mg mb m i ρ2 h2)) D, ⟨s.bound + 1, ρ, ι1, h1, Later.refl, R1, E.mono L1, ok⟩, ?_⟩
    rintro i m σ2 H2 ⟨ρ2, ι2, h2, L2, R2, E2, ok2⟩
    cases m with
    | zero => exact ok2.elim
    | succ m =>
      obtain ⟨sj1, sj2⟩ := SJ ι2 h2 H2 L2 R2 i
      unfold foG at ok2
      split at ok2
      · exact ok2.elim
      · rename_i hs
        obtain ⟨a1, a2, a3⟩ := gce_ok (L1.trans L2) R2 E2
        exact .inl ⟨sj1 hs, ok2 σ2 ι2 H2 a1 a2 a3⟩
      · rename_i x hs
        obtain ⟨hgo, hy⟩ := sj2 x hs
        refine .inr ⟨hgo, fun σ4 H4 => ∃ ρ4 ι4 h4, Later X.K ι1 h1 H1 ι4 h4 H4 ∧ Rp X.K ι4 h4 H4 ∧ EnvR X.K ι4 h4.length H4 σ4 ρ4 ∧ OkO X.K ι h H (gcO h.length (foG s mg mb m (i + 1) ρ4 h4)) D, fun σ4 H4 z => ⟨m, Nat.lt_succ_self m, z⟩, fun v H3 hv => ?_⟩
        obtain ⟨ι3, L3, R3, r3⟩ := hy v H3 hv
        cases eg : mg x ρ2 h2 with
        | exc y h4 => rw [eg] at ok2; exact ok2.elim
        | stuck => rw [eg] at ok2; exact ok2.elim
        | ok ρ4 h4 =>
          rw [eg] at ok2
          refine qg σ2 ρ2 ι3 h2 H3 v x (E2.mono L3) R3 r3 ρ4 h4 eg _ fun σ4 ι4 H4 L4 R4 E4 _ => ?_
          have L24 := (L2.trans L3).trans L4
          refine q1 σ4 ρ4 ι4 h4 H4 E4 R4 _ ?_
          have ok2 : OkO X.K ι h H (gcO h.length (match mb ρ4 h4 with | .nx ρ2 h2 => foG s mg mb m (i + 1) ρ2 h2 | .ct ρ2 h2 => foG s mg mb m (i + 1) ρ2 h2 | .bk ρ2 h2 => .nx ρ2 h2 | o => o)) D := ok2
          cases e : mb ρ4 h4 with
          | nx ρ5 h5 =>
            rw [e] at ok2
            exact fun σ5 ι5 H5 L5 R5 E5 => ⟨ρ5, ι5, h5, L24.trans L5, R5, E5, ok2⟩
          | ct ρ5 h5 =>
            rw [e] at ok2
            exact fun σ5 ι5 H5 L5 R5 E5 => ⟨ρ5, ι5, h5, L24.trans L5, R5, E5, ok2⟩
          | bk ρ5 h5 =>
            rw [e] at ok2
            refine fun σ5 ι5 H5 L5 R5 E5 => ?_
            obtain ⟨a1, a2, a3⟩ := gce_ok (L1.trans (L24.trans L5)) R5 E5
            exact ok2 σ5 ι5 H5 a1 a2 a3
          | rt d h5 =>
            rw [e] at ok2
            exact fun v ι5 H5 L5 R5 r5 => ok2 v ι5 H5 (L1.trans (L24.trans L5)) R5 r5
          | exc x h5 => rw [e] at ok2; exact ok2
          | stuck => rw [e] at ok2; exact ok2
end

/-! ### functions -/
theorem start_env {K : PySem.W.Frag} {ι : Nat → Addr} {n : Nat} {H : Hp} {N : List Str} : ∀ {vs : List V} {ds : List D}, RDs K ι n H vs ds → EnvR K ι n H (L2.start N vs) (startE N.length ds) := by
  intro vs ds r
  have hl := RDs.len r
  refine ⟨by unfold L2.start startE; simp [hl], fun i d e => ?_⟩
  unfold startE at e
  by_cases hi : i < ds.length
  · rw [List.getElem?_append_left (by simpa using hi), List.getElem?_map, Option.map_eq_some_iff] at e
    obtain ⟨d', e1, e2⟩ := e
    cases e2
    obtain ⟨v, e3, r3⟩ := RDs.get r e1
    exact ⟨v, by unfold L2.start; rw [List.getElem?_append_left (by simp; omega), List.getElem?_map, e3]; rfl, r3⟩
  · rw [List.getElem?_append_right (by simpa using hi), List.getElem?_replicate] at e
    split at e <;> cases e
theorem fn_ok {P : Program} {w : World} {K : PySem.W.Frag} {mg : Str → Option Value} {base : Heap} {k : Nat} {x qual : Str} {st : Stmt} {f : Addr} {fd : FuncData} {N ps : List Str} {body : MS}
    (F : Fun K x qual st f fd) (S : FnScope N ps (defScope st))
    (hb : ∀ (cdv : Value) (A : Around) (outer : List Env) (s : Shared) (H : Hp) (E : XK), Room k (A.deeper (envOfC qual (defScope st) s.heap.objs.size f cdv)) → SndSs ((cxOf CX0 P w K mg base N qual (defScope st) f cdv A outer s H E).nox) (defBody st) body) :
    FnOk P w K mg base CX0 (k + 1) f fd ps (SpF K ps.length (fnG ps.length N.length body)) := by
  refine F.ok S (fun vs H Q E h => h.1) fun cdv A outer s H vs Q E hr h => ?_
  obtain ⟨hl, ι, h, ds, R, rd, d, h', e, ok⟩ := h
  obtain ⟨t, p, q⟩ := hb cdv A outer s H E hr
  refine ⟨t, p, q _ (startE N.length ds) ι h H (start_env rd) R _ ?_⟩
  unfold fnG at e
  split at e
  · cases eb : body (startE N.length ds) h with
    | nx ρ1 h1 =>
      rw [eb] at e
      cases e
      exact fun σ' ι' H' L' R' E' => ok .non ι' H' (L'.take rfl) (R'.take _) (.p .non)
    | rt d1 h1 =>
      rw [eb] at e
      refine fun v ι' H' L' R' r' => ?_
      obtain ⟨ι2, L2, R2, r2⟩ := gcv_ok rfl R' r' L' e
      exact ok v ι2 H' L2 R2 r2
    | bk ρ1 h1 => rw [eb] at e; cases e
    | ct ρ1 h1 => rw [eb] at e; cases e
    | exc x h1 => rw [eb] at e; cases e
    | stuck => rw [eb] at e; cases e
  · cases e
end MP
end

section
set_option autoImplicit false
set_option linter.all false
set_option Elab.async false
set_option maxRecDepth 100000
set_option maxHeartbeats 4000000
/-! MPComp: from the text to the clean functions. -/
namespace MP
open PySem PySem.Spec PyProof.Rows L2
def ixOf : List Str → Str → Option Nat
  | [], _ => none
  | y :: ys, x => if y = x then some 0 else (ixOf ys x).map (· + 1)
theorem ixOf_get : ∀ {N : List Str} {x : Str} {i : Nat}, ixOf N x = some i → N[i]? = some x
  | [], _, _, h => by cases h
  | y :: ys, x, i, h => by
    unfold ixOf at h
    split at h
    · rename_i e; cases h; rw [e]; rfl
    · rw [Option.map_eq_some_iff] at h
      obtain ⟨j, h1, h2⟩ := h
      subst h2
      rw [List.getElem?_cons_succ]
      exact ixOf_get h1
def bopOf : Operator → Option Bop
  | .Add => some .add | .Sub => some .sub | .Mult => some .mul | .FloorDiv => some .fdiv | .Mod => some .mod | .Pow => some .pow | _ => none
def copOf : CmpOp → Option Cop
  | .Eq => some .eq | .NotEq => some .ne | .Lt => some .lt | .LtE => some .le | .Gt => some .gt | .GtE => some .ge | .In => some .isin | .NotIn => some .notin | _ => none
def bltB (x : Str) (n : Nat) : Option Blt :=
  if x = "len" then (if n = 1 then some .len else none) else if x = "abs" then (if n = 1 then some .abs else none) else if x = "min" then (if n = 2 then some .min2 else none) else if x = "max" then (if n = 2 then some .max2 else none) else none
def bltT (x : Str) (n : Nat) : Option Blt :=
  if x = "int" then (if n = 1 then some .int else none) else if x = "list" then (if n = 1 then some .list else none) else if x = "tuple" then (if n = 1 then some .tuple else none) else none
def tyOf (x : Str) : Option Ty :=
  if x = "tuple" then some .tuple else if x = "str" then some .str else if x = "int" then some .int else if x = "bool" then some .bool else if x = "list" then some .list else none
def bltNames : List Str := ["len", "abs", "min", "max", "int", "list", "tuple", "isinstance", "range", "str", "bool"]
def mthOf (x : Str) (n : Nat) : Option Mth :=
  if x = "append" then (if n = 1 then some .append else none) else if x = "pop" then (if n = 0 then some .pop0 else if n = 1 then some .pop1 else none) else none
def ownOf (N : List Str) (scope : Scope) : List (Str × Nat) := scope.names.filterMap fun y => match y.2 with
  | .local => (ixOf N y.1).map fun i => (y.1, i)
  | .cell => (ixOf N y.1).map fun i => (y.1, i)
  | _ => none
def visK : Option NameKind → Bool
  | some .local => true | some .cell => true | some .free => true | _ => false
def glK : Option NameKind → Bool
  | some .globalImplicit => true | _ => false
def locK : Option NameKind → Bool
  | some .local => true | some .cell => true | _ => false
def okN (x : Str) : Bool := !(x == ("__debug__" : Str)) && !(x == ("__classdict__" : Str))
section
variable (Γ : Fns) (FT : List (Str × Nat)) (N : List Str)
mutual
def compE : Nat → Scope → (Str → Bool) → Expr → Option ME
  | 0, _, _, _ => none
  | n + 1, sc, fnc, e =>
    match e with
    | .Name x _ => if visK (sc.names.lookup x) && okN x then (ixOf N x).map mv else none
    | .Constant (.int i) _ _ => some (mc (.int i))
    | .Constant (.bool b) _ _ => some (mc (.bl b))
    | .Constant .none _ _ => some (mc .non)
    | .Constant (.str s) _ _ => if PyData.strOk s && decide (s.length ≤ szl) then some (mc (.str s)) else none
    | .Tuple es _ _ => (compA n sc fnc es).map mtup
    | .List es _ => (compA n sc fnc es).map mlst
    | .BinOp a op b _ =>
      match bopOf op, compE n sc fnc a, compE n sc fnc b with
      | some o, some ma, some mb => some (mbin o ma mb)
      | _, _, _ => none
    | .UnaryOp .USub a _ => (compE n sc fnc a).map mneg
    | .UnaryOp .Not a _ => (compE n sc fnc a).map mnot
    | .BoolOp op vs _ => compB n sc fnc op vs
    | .Compare a [.Is] [.Constant .none _ _] _ => (compE n sc fnc a).map fun m => mB (misnT false m)
    | .Compare a [.IsNot] [.Constant .none _ _] _ => (compE n sc fnc a).map fun m => mB (misnT true m)
    | .Compare a [op] [b] _ =>
      match copOf op, compE n sc fnc a, compE n sc fnc b, gd b with
      | some o, some ma, some mb, true => some (mB (mcmpT o ma mb))
      | _, _, _, _ => none
    | .IfExp c a b _ =>
      match compT n sc fnc c, compE n sc fnc a, compE n sc fnc b with
      | some t, some ma, some mb => some (mifx t ma mb)
      | _, _, _ => none
    | .Subscript a (.Slice lo hi none _) _ =>
      match compE n sc fnc a, compO n sc fnc lo, compO n sc fnc hi with
      | some m, some l, some h => some (mcut m l h)
      | _, _, _ => none
    | .Subscript a b _ =>
      match compE n sc fnc a, compE n sc fnc b, gd b with
      | some ma, some mb, true => some (midx ma mb)
      | _, _, _ => none
    | .Call (.Name x _) args [] _ =>
      if glK (sc.names.lookup x) && okN x then
        match FT.lookup x with
        | some f => if x == ("gcd" : Str) && args.isEmpty then none else (compA n sc fnc args).map (mcall Γ f)
        | none =>
          match args with
          | [] => none
          | [a] =>
            if x = "list" && (compR n sc fnc a).isSome && gd a then (compR n sc fnc a).map mlrg
            else
              match bltB x 1, bltT x 1 with
              | some b, _ => (compA n sc fnc [a]).map (mblt b)
              | none, some b => (compA n sc fnc [a]).map (mblt b)
              | none, none => none
          | [a, b] =>
            match bltB x 2 with
            | some b' => (compA n sc fnc [a, b]).map (mblt b')
            | none =>
              match b with
              | .Name T _ =>
                match tyOf T, compE n sc fnc a with
                | some t, some m => if x = "isinstance" && glK (sc.names.lookup T) && gd a then some (misi t m) else none
                | _, _ => none
              | _ => none
          | _ => none
      else none
    | .Call (.Attribute o name apos) args [] pos =>
      match mthOf name args.length, compE n sc fnc o, compA n sc fnc args with
      | some m, some mo, some ms => if noC0 o && (apos.endLine == pos.line) then some (mmth m mo ms) else none
      | _, _, _ => none
    | .ListComp elt [⟨tg, iter, ifs, 0⟩] scope _ =>
      if blkC N sc scope (ownOf N scope) && gd iter then
        match compI n sc fnc iter, compG n (relS scope sc) (fun x => scope.names.lookup x == some .cell) ((ownOf N scope).map (·.2)) tg,
          compTs n (relS scope sc) (fun x => scope.names.lookup x == some .cell) ifs, compE n (relS scope sc) (fun x => scope.names.lookup x == some .cell) elt with
        | some mi, some mg, some mt, some me => some (mlc mi mg mt me ((ownOf N scope).map (·.2)))
        | _, _, _, _ => none
      else none
    | _ => none
def compA : Nat → Scope → (Str → Bool) → List Expr → Option (List ME)
  | 0, _, _, _ => none
  | _ + 1, _, _, [] => some []
  | n + 1, sc, fnc, e :: es =>
    match compE n sc fnc e, compA n sc fnc es, gd e with
    | some m, some ms, true => some (m :: ms)
    | _, _, _ => none
def compB : Nat → Scope → (Str → Bool) → BoolOp → List Expr → Option ME
  | 0, _, _, _, _ => none
  | _ + 1, _, _, _, [] => none
  | n + 1, sc, fnc, _, [a] => compE n sc fnc a
  | n + 1, sc, fnc, op, a :: b :: rest =>
    match compE n sc fnc a, compB n sc fnc op (b :: rest) with
    | some m, some m' => some (match op with | .And => mand m m' | .Or => mor m m')
    | _, _ => none
def compT : Nat → Scope → (Str → Bool) → Expr → Option MT
  | 0, _, _, _ => none
  | n + 1, sc, fnc, e =>
    match e with
    | .UnaryOp .Not a _ => (compT n sc fnc a).map mnotT
    | .BoolOp op vs _ => compW n sc fnc op vs
    | .Compare a [.Is] [.Constant .none _ _] _ => (compE n sc fnc a).map (misnT false)
    | .Compare a [.IsNot] [.Constant .none _ _] _ => (compE n sc fnc a).map (misnT true)
    | .Compare a [op] [b] _ =>
      match copOf op, compE n sc fnc a, compE n sc fnc b, gd b with
      | some o, some ma, some mb, true => some (mcmpT o ma mb)
      | _, _, _, _ => none
    | e => if plT e then (compE n sc fnc e).map mtru else none
def compW : Nat → Scope → (Str → Bool) → BoolOp → List Expr → Option MT
  | 0, _, _, _, _ => none
  | _ + 1, _, _, _, [] => none
  | n + 1, sc, fnc, _, [a] => compT n sc fnc a
  | n + 1, sc, fnc, op, a :: b :: rest =>
    match compT n sc fnc a, compW n sc fnc op (b :: rest) with
    | some m, some m' => some (match op with | .And => mandT m m' | .Or => morT m m')
    | _, _ => none
def compTs : Nat → Scope → (Str → Bool) → List Expr → Option MT
  | 0, _, _, _ => none
  | _ + 1, _, _, [] => some myes
  | n + 1, sc, fnc, [c] => compT n sc fnc c
  | _ + 1, _, _, _ => none
def compO : Nat → Scope → (Str → Bool) → Option Expr → Option MO
  | 0, _, _, _ => none
  | _ + 1, _, _, none => some mo0
  | n + 1, sc, fnc, some e => (compE n sc fnc e).map mo1
def compR : Nat → Scope → (Str → Bool) → Expr → Option MR
  | 0, _, _, _ => none
  | n + 1, sc, fnc, e =>
    match e with
    | .Call (.Name x _) [a] [] _ =>
      match compE n sc fnc a, gd a with
      | some m, true => if x = "range" && glK (sc.names.lookup x) then some (mr1 m) else none
      | _, _ => none
    | .Call (.Name x _) [a, b] [] _ =>
      match compE n sc fnc a, gd a, compE n sc fnc b, gd b with
      | some m, true, some m', true => if x = "range" && glK (sc.names.lookup x) then some (mr2 m m') else none
      | _, _, _, _ => none
    | _ => none
def compI : Nat → Scope → (Str → Bool) → Expr → Option MI
  | 0, _, _, _ => none
  | n + 1, sc, fnc, e =>
    match compR n sc fnc e with
    | some r => some (mirg r)
    | none => (compE n sc fnc e).map mival
def compG : Nat → Scope → (Str → Bool) → List Nat → Expr → Option MG
  | 0, _, _, _, _ => none
  | n + 1, sc, fnc, vs, e =>
    match e with
    | .Name x _ =>
      match ixOf N x with
      | some i => if locK (sc.names.lookup x) && (fnc x || (sc.names.lookup x == some .local)) && vs.contains i then some (gnm i) else none
      | none => none
    | .Tuple ts _ _ => (compGs n sc fnc vs ts).map gtup
    | .Subscript o i _ =>
      match compE n sc fnc o, compE n sc fnc i, gd i with
      | some mo, some mi, true => some (gsub mo mi)
      | _, _, _ => none
    | _ => none
def compGs : Nat → Scope → (Str → Bool) → List Nat → List Expr → Option (List MG)
  | 0, _, _, _, _ => none
  | _ + 1, _, _, _, [] => some []
  | n + 1, sc, fnc, vs, t :: ts =>
    match compG n sc fnc vs t, compGs n sc fnc vs ts, gd t with
    | some g, some gs, true => some (g :: gs)
    | _, _, _ => none
end
def isTup : Expr → Bool
  | .Tuple .. => true
  | .List .. => true
  | _ => false
/-- a comprehension that is stored at once -/
def swp (sc : Scope) (y : Str) (py lp : Pos) (scope : Scope) : Bool :=
  (sc.names.lookup y == some .local) && (py.line == lp.line) && !(scope.names.any fun (n, k) => n == y && (k == .local || k == .cell)) && (match sc.kind with | .function => true | _ => false)
mutual
def compS : Nat → Scope → (Str → Bool) → Stmt → Option MS
  | 0, _, _, _ => none
  | n + 1, sc, fnc, st =>
    match st with
    | .Assign [.Name x px] e pos =>
      match ixOf N x with
      | some i =>
        if locK (sc.names.lookup x) && (fnc x || (sc.names.lookup x == some .local)) then
          match e with
          | .ListComp _ [⟨_, _, _, 0⟩] scope lp => if swp sc x px lp scope then (compE Γ FT N n sc fnc e).map (sasg (gnm i)) else none
          | e => if nsw e then (compE Γ FT N n sc fnc e).map (sasg (gnm i)) else none
        else none
      | none => none
    | .Assign [tg] e _ =>
      if nsw e && (!isTup tg || !isTup e) && gd tg then
        match compG Γ FT N n sc fnc (List.range N.length) tg, compE Γ FT N n sc fnc e with
        | some g, some m => some (sasg g m)
        | _, _ => none
      else none
    | .AugAssign (.Name x _) .Add e _ =>
      match ixOf N x, compE Γ FT N n sc fnc e with
      | some i, some m => if locK (sc.names.lookup x) && (fnc x || (sc.names.lookup x == some .local)) then some (saug false i m) else none
      | _, _ => none
    | .AugAssign (.Name x _) .Sub e _ =>
      match ixOf N x, compE Γ FT N n sc fnc e with
      | some i, some m => if locK (sc.names.lookup x) && (fnc x || (sc.names.lookup x == some .local)) then some (saug true i m) else none
      | _, _ => none
    | .Expr e _ => if nsw e then (compE Γ FT N n sc fnc e).map sexp else none
    | .Return (some e) _ => (compE Γ FT N n sc fnc e).map sret
    | .Return none _ => some sretN
    | .Pass _ => some sskip
    | .Break _ => some sbrk
    | .Continue _ => some scnt
    | .If c a b _ =>
      match compT Γ FT N n sc fnc c, compSs n sc fnc a, compSs n sc fnc b with
      | some t, some ma, some mb => some (sif t ma mb)
      | _, _, _ => none
    | .While c b [] _ =>
      match compT Γ FT N n sc fnc c, compSs n sc fnc b with
      | some t, some mb => some (swhile t mb)
      | _, _ => none
    | .For tg iter b [] _ =>
      match compI Γ FT N n sc fnc iter, compG Γ FT N n sc fnc (List.range N.length) tg, compSs n sc fnc b, gd iter with
      | some mi, some mg, some mb, true => some (sfor mi mg mb)
      | _, _, _, _ => none
    | _ => none
def compSs : Nat → Scope → (Str → Bool) → List Stmt → Option MS
  | 0, _, _, _ => none
  | _ + 1, _, _, [] => some sskip
  | n + 1, sc, fnc, s :: ss =>
    match compS n sc fnc s, compSs n sc fnc ss with
    | some m, some ms => some (sseq m ms)
    | _, _ => none
end
end
end MP
end

section
set_option autoImplicit false
set_option linter.all false
set_option Elab.async false
set_option maxRecDepth 100000
set_option maxHeartbeats 8000000
/-! MPComp2: what compiles is sound. -/
namespace MP
open PySem PySem.Spec PyProof.Rows L2
structure Cxt (Γ : Fns) (FT : List (Str × Nat)) (N : List Str) (k : Nat) (sc : Scope) (fnc : Str → Bool) (X : Cx) : Prop where
  hN : X.N = N
  nd : N.Nodup
  sc : X.env.scope = sc
  fn : X.fn = fnc
  calm : X.calm = true
  room : Room k X.A
  xe : X.xe = fun _ _ => False
  blt : ∀ x ∈ bltNames, X.mg x = none
  fns : ∀ x f, FT.lookup x = some f → ∃ n, FnFact X k x n (Γ f)
section
variable {Γ : Fns} {FT : List (Str × Nat)} {N : List Str} {k : Nat} {sc : Scope} {fnc : Str → Bool} {X : Cx}
theorem Cxt.blk (C : Cxt Γ FT N k sc fnc X) (scope : Scope) (s : Shared) (H : Hp) (c : Addr) (cl : List (Str × Addr)) (fp : List Addr) : Cxt Γ FT N k (relS scope sc) (fun x => scope.names.lookup x == some .cell) (blkc X scope s H c cl fp) :=
  ⟨C.hN, C.nd, by rw [← C.sc]; rfl, rfl, C.calm, C.room, rfl, C.blt, C.fns⟩
theorem okN_iff {x : Str} (h : okN x = true) : (x == ("__debug__" : Str)) = false ∧ (x == ("__classdict__" : Str)) = false := by
  unfold okN at h
  rw [Bool.and_eq_true, Bool.not_eq_true', Bool.not_eq_true'] at h
  exact h
theorem visK_iff {sc : Scope} {x : Str} (h : visK (sc.names.lookup x) = true) : Vis sc x := by
  unfold visK at h
  split at h
  · exact .inl (by assumption)
  · exact .inr (.inl (by assumption))
  · exact .inr (.inr (by assumption))
  · cases h
theorem locK_iff {sc : Scope} {x : Str} (h : locK (sc.names.lookup x) = true) : Loc sc x := by
  unfold locK at h
  split at h
  · exact .inl (by assumption)
  · exact .inr (by assumption)
  · cases h
theorem glK_iff {sc : Scope} {x : Str} (h : glK (sc.names.lookup x) = true) : sc.names.lookup x = some .globalImplicit := by
  unfold glK at h
  split at h
  · assumption
  · cases h
theorem Cxt.gl (C : Cxt Γ FT N k sc fnc X) {x : Str} (h : glK (sc.names.lookup x) = true) : Gl X x := by
  show X.env.scope.names.lookup x = _
  rw [C.sc]; exact glK_iff h
theorem name_ok {x : Str} (h : x ∈ bltNames) : x ≠ "__name__" ∧ (x == ("__debug__" : Str)) = false := by
  have : ∀ y ∈ bltNames, y ≠ ("__name__" : Str) ∧ (y == ("__debug__" : Str)) = false := by decide +kernel
  exact this x h
theorem bopOf_ok {op : Operator} {o : Bop} (h : bopOf op = some o) : OpS X (binaryOp op) (bopD o) := by
  cases op <;> first | (cases h; done) | skip
  all_goals first
    | (cases h; exact ops_add)
    | (cases h; exact ops_sub)
    | (cases h; exact ops_mul)
    | (cases h; exact ops_fdiv)
    | (cases h; exact ops_mod)
    | (cases h; exact ops_pow)
theorem copOf_ok (hr : Room k X.A) {op : CmpOp} {o : Cop} (h : copOf op = some o) : OpB X (compareOp op) (copD o) := by
  cases op <;> first | (cases h; done) | skip
  all_goals first
    | (cases h; exact opb_eq hr)
    | (cases h; exact opb_ne hr)
    | (cases h; exact opb_lt)
    | (cases h; exact opb_le)
    | (cases h; exact opb_gt)
    | (cases h; exact opb_ge)
    | (cases h; exact opb_in hr)
    | (cases h; exact opb_notin hr)
theorem bltB_ok (hc : X.calm = true) {x : Str} {n : Nat} {b : Blt} (h : bltB x n = some b) : x ∈ bltNames ∧ ∃ id, bootBuiltins x = some (.builtin id) ∧ CallS X (.builtin id) (bltD b) := by
  unfold bltB at h
  split at h
  · rename_i e; subst e
    split at h <;> cases h
    exact ⟨by decide +kernel, _, (by decide +kernel : bootBuiltins "len" = some (.builtin "len")), calls_len⟩
  · split at h
    · rename_i e; subst e
      split at h <;> cases h
      exact ⟨by decide +kernel, _, (by decide +kernel : bootBuiltins "abs" = some (.builtin "abs")), calls_abs⟩
    · split at h
      · rename_i e; subst e
        split at h <;> cases h
        exact ⟨by decide +kernel, _, (by decide +kernel : bootBuiltins "min" = some (.builtin "min")), calls_min2 hc⟩
      · split at h
        · rename_i e; subst e
          split at h <;> cases h
          exact ⟨by decide +kernel, _, (by decide +kernel : bootBuiltins "max" = some (.builtin "max")), calls_max2 hc⟩
        · cases h
theorem bltT_ok {x : Str} {n : Nat} {b : Blt} (h : bltT x n = some b) : x ∈ bltNames ∧ ∃ T, bootBuiltins x = some (.type T) ∧ CallS X (.type T) (bltD b) := by
  unfold bltT at h
  split at h
  · rename_i e; subst e
    split at h <;> cases h
    exact ⟨by decide +kernel, _, (by decide +kernel : bootBuiltins "int" = some (.type "int")), calls_int⟩
  · split at h
    · rename_i e; subst e
      split at h <;> cases h
      exact ⟨by decide +kernel, _, (by decide +kernel : bootBuiltins "list" = some (.type "list")), calls_list⟩
    · split at h
      · rename_i e; subst e
        split at h <;> cases h
        exact ⟨by decide +kernel, _, (by decide +kernel : bootBuiltins "tuple" = some (.type "tuple")), calls_tuple⟩
      · cases h
theorem tyOf_ok {x : Str} {t : Ty} (h : tyOf x = some t) : x = Str.ofString (tyN t) ∧ x ∈ bltNames ∧ bootBuiltins x = some (.type (tyN t)) := by
  unfold tyOf at h
  split at h
  · rename_i e; subst e; cases h; exact ⟨rfl, by decide +kernel, by decide +kernel⟩
  · split at h
    · rename_i e; subst e; cases h; exact ⟨rfl, by decide +kernel, by decide +kernel⟩
    · split at h
      · rename_i e; subst e; cases h; exact ⟨rfl, by decide +kernel, by decide +kernel⟩
      · split at h
        · rename_i e; subst e; cases h; exact ⟨rfl, by decide +kernel, by decide +kernel⟩
        · split at h
          · rename_i e; subst e; cases h; exact ⟨rfl, by decide +kernel, by decide +kernel⟩
          · cases h
theorem ownOf_ix {N : List Str} {scope : Scope} : ∀ p ∈ ownOf N scope, N[p.2]? = some p.1 := fun p hp => by
  unfold ownOf at hp
  rw [List.mem_filterMap] at hp
  obtain ⟨y, _, h⟩ := hp
  split at h
  · rw [Option.map_eq_some_iff] at h
    obtain ⟨i, h1, h2⟩ := h
    subst h2
    exact ixOf_get h1
  · rw [Option.map_eq_some_iff] at h
    obtain ⟨i, h1, h2⟩ := h
    subst h2
    exact ixOf_get h1
  · cases h
/-- what is shown of all kinds of syntax at one depth -/
structure SndN (Γ : Fns) (FT : List (Str × Nat)) (N : List Str) (n : Nat) : Prop where
  E : ∀ {k sc fnc X}, Cxt Γ FT N k sc fnc X → ∀ {e m}, compE Γ FT N n sc fnc e = some m → SndE X e m
  A : ∀ {k sc fnc X}, Cxt Γ FT N k sc fnc X → ∀ {e m}, compA Γ FT N n sc fnc e = some m → SndA X e (mes m) ∧ (∀ y ∈ e, GoodE y) ∧ e.length = m.length
  B : ∀ {k sc fnc X}, Cxt Γ FT N k sc fnc X → ∀ {op e m pos}, compB Γ FT N n sc fnc op e = some m → SndE X (.BoolOp op e pos) m
  T : ∀ {k sc fnc X}, Cxt Γ FT N k sc fnc X → ∀ {e m}, compT Γ FT N n sc fnc e = some m → SndT X e m
  W : ∀ {k sc fnc X}, Cxt Γ FT N k sc fnc X → ∀ {op e m pos}, compW Γ FT N n sc fnc op e = some m → SndW X (.BoolOp op e pos) m
  Ts : ∀ {k sc fnc X}, Cxt Γ FT N k sc fnc X → ∀ {e m}, compTs Γ FT N n sc fnc e = some m → SndTs X e m
  O : ∀ {k sc fnc X}, Cxt Γ FT N k sc fnc X → ∀ {e m}, compO Γ FT N n sc fnc e = some m → SndO X e m
  R : ∀ {k sc fnc X}, Cxt Γ FT N k sc fnc X → ∀ {e m}, compR Γ FT N n sc fnc e = some m → SndR X e m ∧ ∀ tg, SndI X tg e (mirg m)
  I : ∀ {k sc fnc X}, Cxt Γ FT N k sc fnc X → ∀ {e m tg}, compI Γ FT N n sc fnc e = some m → SndI X tg e m
  G : ∀ {k sc fnc X}, Cxt Γ FT N k sc fnc X → ∀ {vs e m}, compG Γ FT N n sc fnc vs e = some m → SndG X vs e m
  Gs : ∀ {k sc fnc X}, Cxt Γ FT N k sc fnc X → ∀ {vs e m}, compGs Γ FT N n sc fnc vs e = some m → SndGs X vs e m ∧ (assignEach e X.env).length = m.length ∧ (assignEach e X.env).findIdx? (·.1) = none
theorem snd_zero : SndN Γ FT N 0 := by
  constructor <;> intros <;> rename_i h <;> (first | (simp only [compE, compA, compB, compT, compW, compTs, compO, compR, compI, compG, compGs] at h; cases h) | skip)
theorem snd_callA {f k n : Nat} {x : Str} {p pos : Pos} {es : List Expr} {ms : List ME} (F : FnFact X k x n (Γ f)) (hr : Room k X.A) (hg : Gl X x) (hdb : (x == ("__debug__" : Str)) = false) (hne : (x == ("gcd" : Str) && es.isEmpty) = false) (gs : ∀ z ∈ es, GoodE z) (hl : es.length = ms.length)
    (a : SndA X es (mes ms)) : SndE X (.Call (.Name x p) es [] pos) (mcall Γ f ms) := by
  cases es with
  | nil =>
    cases ms with
    | nil => exact snd_call0 F hr hg hdb (by simpa using hne)
    | cons _ _ => cases hl
  | cons y ys => exact snd_call F hr hg hdb (gs y List.mem_cons_self) (fun z hz => gs z (List.mem_cons_of_mem _ hz)) a
theorem snd_mthA {x : Str} {apos pos : Pos} {m : Mth} {o : Expr} {es : List Expr} {mo : ME} {ms : List ME} (h : mthOf x es.length = some m) (ho : noC0 o = true) (hl : (apos.endLine == pos.line) = true) (gs : ∀ z ∈ es, GoodE z) (hlen : es.length = ms.length)
    (so : SndE X o mo) (sa : SndA X es (mes ms)) : SndE X (.Call (.Attribute o x apos) es [] pos) (mmth m mo ms) := by
  unfold mthOf at h
  split at h
  · rename_i e; subst e
    split at h
    · rename_i e1
      cases h
      cases es with
      | nil => cases e1
      | cons y ys => exact snd_mth F.slot_list_append F.type_list_append mths_append ho hl (by rw [e1]; decide) (gs y List.mem_cons_self) (fun z hz => gs z (List.mem_cons_of_mem _ hz)) so sa
    · cases h
  · split at h
    · rename_i e; subst e
      split at h
      · rename_i e1
        cases h
        cases es with
        | nil =>
          cases ms with
          | nil => exact snd_mth0 F.slot_list_pop F.type_list_pop mths_pop0 ho hl so
          | cons _ _ => cases hlen
        | cons y ys => cases e1
      · split at h
        · rename_i e1
          cases h
          cases es with
          | nil => cases e1
          | cons y ys => exact snd_mth F.slot_list_pop F.type_list_pop mths_pop1 ho hl (by rw [e1]; decide) (gs y List.mem_cons_self) (fun z hz => gs z (List.mem_cons_of_mem _ hz)) so sa
        · cases h
    · cases h
/-- a comprehension's parts -/
theorem lc_parts {n : Nat} (S : SndN Γ FT N n) (C : Cxt Γ FT N k sc fnc X) {tg iter elt : Expr} {ifs : List Expr} {scope : Scope} {mi : MI} {mg : MG} {mt : MT} {me : ME} (hb : blkC N sc scope (ownOf N scope) = true)
    (h1 : compI Γ FT N n sc fnc iter = some mi) (h2 : compG Γ FT N n (relS scope sc) (fun x => scope.names.lookup x == some .cell) ((ownOf N scope).map (·.2)) tg = some mg)
    (h3 : compTs Γ FT N n (relS scope sc) (fun x => scope.names.lookup x == some .cell) ifs = some mt) (h4 : compE Γ FT N n (relS scope sc) (fun x => scope.names.lookup x == some .cell) elt = some me) :
    SndI X tg iter mi ∧ BlkOk X.N X.env.scope scope (ownOf N scope) ∧ (∀ s H c cl fp, SndG (blkc X scope s H c cl fp) ((ownOf N scope).map (·.2)) tg mg) ∧
      (∀ s H c cl fp, SndTs (blkc X scope s H c cl fp) ifs mt) ∧ ∀ s H c cl fp, SndE (blkc X scope s H c cl fp) elt me :=
  ⟨S.I C h1, by rw [C.hN, C.sc]; exact blkOk_by hb, fun s H c cl fp => S.G (C.blk scope s H c cl fp) h2, fun s H c cl fp => S.Ts (C.blk scope s H c cl fp) h3, fun s H c cl fp => S.E (C.blk scope s H c cl fp) h4⟩
theorem snd_E {n : Nat} (S : SndN Γ FT N n) (C : Cxt Γ FT N k sc fnc X) {e : Expr} {m : ME} (h : compE Γ FT N (n + 1) sc fnc e = some m) : SndE X e m := by
  unfold compE at h
  split at h
  · split at h
    · rename_i hv
      rw [Bool.and_eq_true] at hv
      rw [Option.map_eq_some_iff] at h
      obtain ⟨i, h1, h2⟩ := h
      subst h2
      exact snd_var (by rw [C.hN]; exact ixOf_get h1) (by rw [C.sc]; exact visK_iff hv.1) (okN_iff hv.2).1 (okN_iff hv.2).2
    · cases h
  · cases h; exact snd_int
  · cases h; exact snd_bl
  · cases h; exact snd_non
  · split at h
    · rename_i hs
      rw [Bool.and_eq_true, decide_eq_true_eq] at hs
      cases h; exact snd_str hs.1 hs.2
    · cases h
  · rw [Option.map_eq_some_iff] at h
    obtain ⟨i, h1, h2⟩ := h
    subst h2
    exact snd_tup (S.A C h1).1
  · rw [Option.map_eq_some_iff] at h
    obtain ⟨i, h1, h2⟩ := h
    subst h2
    exact snd_lst (S.A C h1).1
  · split at h
    · rename_i h1 h2 h3
      cases h
      exact snd_bin (bopOf_ok h1) (S.E C h2) (S.E C h3)
    · cases h
  · rw [Option.map_eq_some_iff] at h
    obtain ⟨i, h1, h2⟩ := h
    subst h2
    exact snd_neg (S.E C h1)
  · rw [Option.map_eq_some_iff] at h
    obtain ⟨i, h1, h2⟩ := h
    subst h2
    exact snd_not (S.E C h1)
  · exact S.B C h
  · rw [Option.map_eq_some_iff] at h
    obtain ⟨i, h1, h2⟩ := h
    subst h2
    exact snd_isn (S.E C h1)
  · rw [Option.map_eq_some_iff] at h
    obtain ⟨i, h1, h2⟩ := h
    subst h2
    exact snd_isnn (S.E C h1)
  · split at h
    · rename_i h1 h2 h3 h4
      cases h
      exact snd_cmp (good h4) (copOf_ok C.room h1) (S.E C h2) (S.E C h3)
    · cases h
  · split at h
    · rename_i h1 h2 h3
      cases h
      exact snd_ifx (S.T C h1) (S.E C h2) (S.E C h3)
    · cases h
  · split at h
    · rename_i h1 h2 h3
      cases h
      exact snd_cut (S.E C h1) (S.O C h2) (S.O C h3)
    · cases h
  · split at h
    · rename_i h1 h2 h3
      cases h
      exact snd_idx (good h3) (S.E C h1) (S.E C h2)
    · cases h
  · split at h
    · rename_i hg
      rw [Bool.and_eq_true] at hg
      split at h
      · rename_i f hf
        split at h
        · cases h
        rename_i hne
        rw [Option.map_eq_some_iff] at h
        obtain ⟨ms, h1, h2⟩ := h
        subst h2
        obtain ⟨nn, F⟩ := C.fns _ _ hf
        obtain ⟨a1, a2, a3⟩ := S.A C h1
        exact snd_callA F C.room (C.gl hg.1) (okN_iff hg.2).1 (Bool.eq_false_iff.mpr hne) a2 a3 a1
      · split at h
        · cases h
        · split at h
          · rename_i hl
            simp only [Bool.and_eq_true, decide_eq_true_eq] at hl
            obtain ⟨⟨hx, _⟩, hga⟩ := hl
            rw [Option.map_eq_some_iff] at h
            obtain ⟨r, h1, h2⟩ := h
            subst h2
            subst hx
            exact snd_lrg C.calm (C.gl hg.1) (C.blt _ (by decide +kernel)) (good hga) (S.R C h1).1
          · split at h
            · rename_i hb
              rw [Option.map_eq_some_iff] at h
              obtain ⟨ms, h1, h2⟩ := h
              subst h2
              obtain ⟨b1, id, b2, b3⟩ := bltB_ok C.calm hb
              obtain ⟨a1, a2, a3⟩ := S.A C h1
              exact snd_blt b3 (C.gl hg.1) (C.blt _ b1) b2 (name_ok b1).1 (name_ok b1).2 (a2 _ List.mem_cons_self) (fun z hz => a2 z (List.mem_cons_of_mem _ hz)) a1
            · rename_i hb
              rw [Option.map_eq_some_iff] at h
              obtain ⟨ms, h1, h2⟩ := h
              subst h2
              obtain ⟨b1, id, b2, b3⟩ := bltT_ok hb
              obtain ⟨a1, a2, a3⟩ := S.A C h1
              exact snd_bty b3 (C.gl hg.1) (C.blt _ b1) b2 (name_ok b1).1 (name_ok b1).2 (a2 _ List.mem_cons_self) (fun z hz => a2 z (List.mem_cons_of_mem _ hz)) a1
            · cases h
        · split at h
          · rename_i hb
            rw [Option.map_eq_some_iff] at h
            obtain ⟨ms, h1, h2⟩ := h
            subst h2
            obtain ⟨b1, id, b2, b3⟩ := bltB_ok C.calm hb
            obtain ⟨a1, a2, a3⟩ := S.A C h1
            exact snd_blt b3 (C.gl hg.1) (C.blt _ b1) b2 (name_ok b1).1 (name_ok b1).2 (a2 _ List.mem_cons_self) (fun z hz => a2 z (List.mem_cons_of_mem _ hz)) a1
          · split at h
            · split at h
              · rename_i ht hm
                split at h
                · rename_i hz
                  simp only [Bool.and_eq_true, decide_eq_true_eq] at hz
                  obtain ⟨⟨hx, hgT⟩, hga⟩ := hz
                  cases h
                  subst hx
                  obtain ⟨t1, t2, t3⟩ := tyOf_ok ht
                  exact snd_isi t1 (C.gl hg.1) (C.blt _ (by decide +kernel)) (C.gl hgT) (C.blt _ t2) t3 (name_ok t2).1 (name_ok t2).2 (good hga) (S.E C hm)
                · cases h
              · cases h
            · cases h
        · cases h
    · cases h
  · split at h
    · rename_i h1 h2 h3
      split at h
      · rename_i hz
        rw [Bool.and_eq_true] at hz
        cases h
        obtain ⟨a1, a2, a3⟩ := S.A C h3
        exact snd_mthA h1 hz.1 hz.2 a2 a3 (S.E C h2) a1
      · cases h
    · cases h
  · split at h
    · rename_i hz
      rw [Bool.and_eq_true] at hz
      split at h
      · rename_i h1 h2 h3 h4
        cases h
        obtain ⟨p1, p2, p3, p4, p5⟩ := lc_parts S C hz.1 h1 h2 h3 h4
        exact snd_lc C.calm (by rw [C.hN]; exact C.nd) p1 p2 (good hz.2) p3 p4 p5
      · cases h
    · cases h
  · cases h
theorem snd_A {n : Nat} (S : SndN Γ FT N n) (C : Cxt Γ FT N k sc fnc X) : ∀ {e : List Expr} {m : List ME}, compA Γ FT N (n + 1) sc fnc e = some m → SndA X e (mes m) ∧ (∀ y ∈ e, GoodE y) ∧ e.length = m.length
  | [], m, h => by
    simp only [compA] at h
    cases h
    exact ⟨snda_nil, fun y hy => (by cases hy), rfl⟩
  | e :: es, m, h => by
    simp only [compA] at h
    split at h
    · rename_i h1 h2 h3
      cases h
      obtain ⟨a1, a2, a3⟩ := S.A C h2
      exact ⟨snda_cons (good h3) (S.E C h1) a1, fun y hy => (List.mem_cons.mp hy).elim (fun z => z ▸ good h3) (a2 y), by rw [List.length_cons, List.length_cons, a3]⟩
    · cases h
theorem snd_B {n : Nat} (S : SndN Γ FT N n) (C : Cxt Γ FT N k sc fnc X) {op : BoolOp} {pos : Pos} : ∀ {e : List Expr} {m : ME}, compB Γ FT N (n + 1) sc fnc op e = some m → SndE X (.BoolOp op e pos) m
  | [], m, h => by
    simp only [compB] at h
    cases h
  | [a], m, h => by
    simp only [compB] at h
    exact snd_one (S.E C h)
  | a :: b :: rest, m, h => by
    simp only [compB] at h
    split at h
    · rename_i h1 h2
      cases h
      cases op with
      | And => exact snd_and (S.E C h1) (S.B C h2)
      | Or => exact snd_or (S.E C h1) (S.B C h2)
    · cases h
theorem snd_W {n : Nat} (S : SndN Γ FT N n) (C : Cxt Γ FT N k sc fnc X) {op : BoolOp} {pos : Pos} : ∀ {e : List Expr} {m : MT}, compW Γ FT N (n + 1) sc fnc op e = some m → SndW X (.BoolOp op e pos) m
  | [], m, h => by
    simp only [compW] at h
    cases h
  | [a], m, h => by
    simp only [compW] at h
    cases op with
    | And => exact sndw_and1 (S.T C h)
    | Or => exact sndw_or1 (S.T C h)
  | a :: b :: rest, m, h => by
    simp only [compW] at h
    split at h
    · rename_i h1 h2
      cases h
      cases op with
      | And => exact sndw_and (S.T C h1) (S.W C h2)
      | Or => exact sndw_or (S.T C h1) (S.W C h2)
    · cases h
theorem snd_T {n : Nat} (S : SndN Γ FT N n) (C : Cxt Γ FT N k sc fnc X) {e : Expr} {m : MT} (h : compT Γ FT N (n + 1) sc fnc e = some m) : SndT X e m := by
  unfold compT at h
  split at h
  · rw [Option.map_eq_some_iff] at h
    obtain ⟨i, h1, h2⟩ := h
    subst h2
    exact sndt_not (S.T C h1)
  · exact (S.W C h).t
  · rw [Option.map_eq_some_iff] at h
    obtain ⟨i, h1, h2⟩ := h
    subst h2
    exact sndt_isn (S.E C h1)
  · rw [Option.map_eq_some_iff] at h
    obtain ⟨i, h1, h2⟩ := h
    subst h2
    exact sndt_isnn (S.E C h1)
  · split at h
    · rename_i h1 h2 h3 h4
      cases h
      exact sndt_cmp (good h4) (copOf_ok C.room h1) (S.E C h2) (S.E C h3)
    · cases h
  · split at h
    · rename_i hp
      rw [Option.map_eq_some_iff] at h
      obtain ⟨i, h1, h2⟩ := h
      subst h2
      exact sndt_tru hp (S.E C h1)
    · cases h
theorem snd_Ts {n : Nat} (S : SndN Γ FT N n) (C : Cxt Γ FT N k sc fnc X) : ∀ {e : List Expr} {m : MT}, compTs Γ FT N (n + 1) sc fnc e = some m → SndTs X e m
  | [], m, h => by
    simp only [compTs] at h
    cases h
    exact sndts_nil
  | [c], m, h => by
    simp only [compTs] at h
    exact sndts_one (S.T C h)
  | _ :: _ :: _, m, h => by
    simp only [compTs] at h
    cases h
theorem snd_O {n : Nat} (S : SndN Γ FT N n) (C : Cxt Γ FT N k sc fnc X) : ∀ {e : Option Expr} {m : MO}, compO Γ FT N (n + 1) sc fnc e = some m → SndO X e m
  | none, m, h => by
    simp only [compO] at h
    cases h
    exact sndo_none
  | some e, m, h => by
    simp only [compO] at h
    rw [Option.map_eq_some_iff] at h
    obtain ⟨i, h1, h2⟩ := h
    subst h2
    exact sndo_some (S.E C h1)
theorem snd_R {n : Nat} (S : SndN Γ FT N n) (C : Cxt Γ FT N k sc fnc X) {e : Expr} {m : MR} (h : compR Γ FT N (n + 1) sc fnc e = some m) : SndR X e m ∧ ∀ tg, SndI X tg e (mirg m) := by
  have hb : X.mg "range" = none := C.blt _ (by decide +kernel)
  unfold compR at h
  split at h
  · split at h
    · rename_i h1 h2
      split at h
      · rename_i hz
        rw [Bool.and_eq_true, decide_eq_true_eq] at hz
        cases h
        obtain ⟨hx, hg⟩ := hz
        subst hx
        exact ⟨sndr_1 (C.gl hg) hb (good h2) (S.E C h1), fun tg => prg_pi_1 (C.gl hg) hb (good h2) (S.E C h1)⟩
      · cases h
    · cases h
  · split at h
    · rename_i h1 h2 h3 h4
      split at h
      · rename_i hz
        rw [Bool.and_eq_true, decide_eq_true_eq] at hz
        cases h
        obtain ⟨hx, hg⟩ := hz
        subst hx
        exact ⟨sndr_2 (C.gl hg) hb (good h2) (good h4) (S.E C h1) (S.E C h3), fun tg => prg_pi_2 (C.gl hg) hb (good h2) (good h4) (S.E C h1) (S.E C h3)⟩
      · cases h
    · cases h
  · cases h
theorem snd_I {n : Nat} (S : SndN Γ FT N n) (C : Cxt Γ FT N k sc fnc X) {tg e : Expr} {m : MI} (h : compI Γ FT N (n + 1) sc fnc e = some m) : SndI X tg e m := by
  unfold compI at h
  split at h
  · rename_i h1
    cases h
    exact (S.R C h1).2 tg
  · rw [Option.map_eq_some_iff] at h
    obtain ⟨i, h1, h2⟩ := h
    subst h2
    exact sndi_val (S.E C h1)
theorem fn_or (C : Cxt Γ FT N k sc fnc X) {x : Str} (h : (fnc x || (sc.names.lookup x == some .local)) = true) : X.fn x = true ∨ X.env.scope.names.lookup x = some .local := by
  rw [C.fn, C.sc]
  rw [Bool.or_eq_true] at h
  rcases h with h | h
  · exact .inl h
  · exact .inr (eq_of_beq h)
theorem sub_assign {o i : Expr} {pos : Pos} (h : gd i = true) (env : Env) (v : Value) : assign (.Subscript o i pos) env v = (do
      let ov ← holding [v] (eval o env)
      let iv ← holding [v, ov] (eval i env)
      standAt pos
      holding [v, ov, iv] (setItem ov iv v)
      release [v, ov, iv] []) := by
  cases i <;> first | rfl | exact absurd h Bool.false_ne_true
theorem snd_G {n : Nat} (S : SndN Γ FT N n) (C : Cxt Γ FT N k sc fnc X) {vs : List Nat} {e : Expr} {m : MG} (h : compG Γ FT N (n + 1) sc fnc vs e = some m) : SndG X vs e m := by
  unfold compG at h
  split at h
  · split at h
    · rename_i hi
      split at h
      · rename_i hz
        simp only [Bool.and_eq_true] at hz
        cases h
        exact sndg_nm (by rw [C.hN]; exact C.nd) (by rw [C.hN]; exact ixOf_get hi) (by rw [C.sc]; exact locK_iff hz.1.1) (fn_or C hz.1.2) (by simpa using hz.2)
      · cases h
    · cases h
  · rw [Option.map_eq_some_iff] at h
    obtain ⟨gs, h1, h2⟩ := h
    subst h2
    obtain ⟨a1, a2, a3⟩ := S.Gs C h1
    exact sndg_tup C.calm a2 a3 a1
  · split at h
    · rename_i h1 h2 h3
      cases h
      exact sndg_sub (sub_assign h3) (S.E C h1) (S.E C h2)
    · cases h
  · cases h
theorem asg_cons {t : Expr} (h : gd t = true) (ts : List Expr) (env : Env) : assignEach (t :: ts) env = (false, assign t env) :: assignEach ts env := by
  cases t <;> first | rfl | exact absurd h Bool.false_ne_true
theorem snd_Gs {n : Nat} (S : SndN Γ FT N n) (C : Cxt Γ FT N k sc fnc X) {vs : List Nat} : ∀ {e : List Expr} {m : List MG}, compGs Γ FT N (n + 1) sc fnc vs e = some m → SndGs X vs e m ∧ (assignEach e X.env).length = m.length ∧ (assignEach e X.env).findIdx? (·.1) = none
  | [], m, h => by
    simp only [compGs] at h
    cases h
    exact ⟨sndgs_nil, rfl, rfl⟩
  | t :: ts, m, h => by
    simp only [compGs] at h
    split at h
    · rename_i h1 h2 h3
      cases h
      obtain ⟨a1, a2, a3⟩ := S.Gs C h2
      rw [asg_cons h3]
      exact ⟨sndgs_cons (by rw [asg_cons h3]; rfl) (S.G C h1) a1, by rw [List.length_cons, List.length_cons, a2], by rw [List.findIdx?_cons, a3]; rfl⟩
    · cases h
theorem snd_all : ∀ n, SndN Γ FT N n
  | 0 => snd_zero
  | n + 1 => have S := snd_all n
    ⟨fun C _ _ h => snd_E S C h, fun C _ _ h => snd_A S C h, fun C _ _ _ _ h => snd_B S C h, fun C _ _ h => snd_T S C h, fun C _ _ _ _ h => snd_W S C h, fun C _ _ h => snd_Ts S C h, fun C _ _ h => snd_O S C h,
      fun C _ _ h => snd_R S C h, fun C _ _ _ h => snd_I S C h, fun C _ _ _ h => snd_G S C h, fun C _ _ _ h => snd_Gs S C h⟩
end
end MP
end

section
set_option autoImplicit false
set_option linter.all false
set_option Elab.async false
set_option maxRecDepth 100000
set_option maxHeartbeats 8000000
/-! MPComp3: statements and whole texts. -/
namespace MP
open PySem PySem.Spec PyProof.Rows L2
section
variable {Γ : Fns} {FT : List (Str × Nat)} {N : List Str} {k : Nat} {sc : Scope} {fnc : Str → Bool} {X : Cx}
theorem lc_of {n : Nat} {tg iter elt : Expr} {ifs : List Expr} {scope : Scope} {lp : Pos} {m : ME} (h : compE Γ FT N n sc fnc (.ListComp elt [⟨tg, iter, ifs, 0⟩] scope lp) = some m) :
    ∃ n', blkC N sc scope (ownOf N scope) = true ∧ gd iter = true ∧ ∃ mi mg mt me, m = mlc mi mg mt me ((ownOf N scope).map (·.2)) ∧ compI Γ FT N n' sc fnc iter = some mi ∧ compG Γ FT N n' (relS scope sc) (fun x => scope.names.lookup x == some .cell) ((ownOf N scope).map (·.2)) tg = some mg ∧
      compTs Γ FT N n' (relS scope sc) (fun x => scope.names.lookup x == some .cell) ifs = some mt ∧ compE Γ FT N n' (relS scope sc) (fun x => scope.names.lookup x == some .cell) elt = some me := by
  cases n with
  | zero => simp only [compE] at h; cases h
  | succ n =>
    simp only [compE] at h
    split at h
    · rename_i hz
      rw [Bool.and_eq_true] at hz
      split at h
      · rename_i h1 h2 h3 h4
        cases h
        exact ⟨n, hz.1, hz.2, _, _, _, _, rfl, h1, h2, h3, h4⟩
      · cases h
    · cases h
theorem swp_iff {y : Str} {py lp : Pos} {scope : Scope} (h : swp sc y py lp scope = true) : sc.names.lookup y = some .local ∧ (py.line == lp.line) = true ∧ (scope.names.any fun (n, k) => n == y && (k == .local || k == .cell)) = false ∧ sc.kind = .function := by
  unfold swp at h
  simp only [Bool.and_eq_true, Bool.not_eq_true'] at h
  obtain ⟨⟨⟨h1, h2⟩, h3⟩, h4⟩ := h
  refine ⟨eq_of_beq h1, h2, h3, ?_⟩
  split at h4
  · assumption
  · cases h4
theorem swapped_none {tg e : Expr} (h : (!isTup tg || !isTup e) = true) (env : Env) : swappedStores [tg] e env = pure none := by
  cases tg with
  | Tuple ts k p => cases e <;> first | rfl | exact absurd h Bool.false_ne_true
  | List ts p => cases e <;> first | rfl | exact absurd h Bool.false_ne_true
  | _ => rfl
structure SndM (Γ : Fns) (FT : List (Str × Nat)) (N : List Str) (n : Nat) : Prop where
  S : ∀ {k sc fnc X}, Cxt Γ FT N k sc fnc X → ∀ {e m}, compS Γ FT N n sc fnc e = some m → SndS X e m
  Ss : ∀ {k sc fnc X}, Cxt Γ FT N k sc fnc X → ∀ {e m}, compSs Γ FT N n sc fnc e = some m → SndSs X e m
theorem sndm_S {n : Nat} (Q : SndM Γ FT N n) (C : Cxt Γ FT N k sc fnc X) {e : Stmt} {m : MS} (h : compS Γ FT N (n + 1) sc fnc e = some m) : SndS X e m := by
  have S := snd_all (Γ := Γ) (FT := FT) (N := N) n
  unfold compS at h
  split at h
  · split at h
    · rename_i i hi
      split at h
      · rename_i hz
        rw [Bool.and_eq_true] at hz
        have hl := locK_iff hz.1
        rw [← C.sc] at hl
        have hf := fn_or C hz.2
        have hN : X.N.Nodup := by rw [C.hN]; exact C.nd
        have hx := ixOf_get hi
        rw [← C.hN] at hx
        split at h
        · split at h
          · rename_i hs
            rw [Option.map_eq_some_iff] at h
            obtain ⟨mm, h1, h2⟩ := h
            subst h2
            obtain ⟨n', b1, b2, mi, mg, mt, me, rfl, q1, q2, q3, q4⟩ := lc_of h1
            obtain ⟨p1, p2, p3, p4, p5⟩ := lc_parts (snd_all n') C b1 q1 q2 q3 q4
            obtain ⟨s1, s2, s3, s4⟩ := swp_iff hs
            rw [← C.sc] at s1 s4
            exact ss_setLc C.calm hN hx s1 (sw_true s4 s1 s2 s3) p1 p2 (good b2) p3 p4 p5
          · cases h
        · split at h
          · rename_i hs
            rw [Option.map_eq_some_iff] at h
            obtain ⟨mm, h1, h2⟩ := h
            subst h2
            exact ss_set hN hx hl hf (noswap hs _ _ _) (S.E C h1)
          · cases h
      · cases h
    · cases h
  · split at h
    · rename_i hz
      simp only [Bool.and_eq_true] at hz
      obtain ⟨⟨hs, ht⟩, hg⟩ := hz
      split at h
      · rename_i h1 h2
        cases h
        exact ss_asg (noswap hs _ _ _) (swapped_none ht _) (by rw [asg_cons hg]; rfl) (S.E C h2) (S.G C h1)
      · cases h
    · cases h
  · split at h
    · rename_i hi h1
      split at h
      · rename_i hz
        rw [Bool.and_eq_true] at hz
        cases h
        exact ss_aug (sub := false) (by rw [C.hN]; exact C.nd) (by rw [C.hN]; exact ixOf_get hi) (by rw [C.sc]; exact locK_iff hz.1) (fn_or C hz.2) (S.E C h1)
      · cases h
    · cases h
  · split at h
    · rename_i hi h1
      split at h
      · rename_i hz
        rw [Bool.and_eq_true] at hz
        cases h
        exact ss_aug (sub := true) (by rw [C.hN]; exact C.nd) (by rw [C.hN]; exact ixOf_get hi) (by rw [C.sc]; exact locK_iff hz.1) (fn_or C hz.2) (S.E C h1)
      · cases h
    · cases h
  · split at h
    · rename_i hs
      rw [Option.map_eq_some_iff] at h
      obtain ⟨mm, h1, h2⟩ := h
      subst h2
      exact ss_expr (noswap hs _ _ _) (S.E C h1)
    · cases h
  · rw [Option.map_eq_some_iff] at h
    obtain ⟨mm, h1, h2⟩ := h
    subst h2
    exact ss_ret (S.E C h1)
  · cases h; exact ss_retN
  · cases h; exact ss_pass
  · cases h; exact ss_brk
  · cases h; exact ss_cnt
  · split at h
    · rename_i h1 h2 h3
      cases h
      exact ss_if (S.T C h1) (Q.Ss C h2) (Q.Ss C h3)
    · cases h
  · split at h
    · rename_i h1 h2
      cases h
      exact ss_while C.xe (S.T C h1) (Q.Ss C h2)
    · cases h
  · split at h
    · rename_i h1 h2 h3 h4
      cases h
      exact ss_for C.xe C.calm (good h4) (S.I C h1) (S.G C h2) (Q.Ss C h3)
    · cases h
  · cases h
theorem sndm_Ss {n : Nat} (Q : SndM Γ FT N n) (C : Cxt Γ FT N k sc fnc X) : ∀ {e : List Stmt} {m : MS}, compSs Γ FT N (n + 1) sc fnc e = some m → SndSs X e m
  | [], m, h => by
    simp only [compSs] at h
    cases h
    exact ss_nil
  | s :: ss, m, h => by
    simp only [compSs] at h
    split at h
    · rename_i h1 h2
      cases h
      exact ss_cons (Q.S C h1) (Q.Ss C h2)
    · cases h
theorem sndm_all : ∀ n, SndM Γ FT N n
  | 0 => ⟨fun C e m h => (by simp only [compS] at h; cases h), fun C e m h => (by simp only [compSs] at h; cases h)⟩
  | n + 1 => have Q := sndm_all n
    ⟨fun C _ _ h => sndm_S Q C h, fun C _ _ h => sndm_Ss Q C h⟩
end

/-! ### whole texts -/
/-- a def: its name, its statement, its slots, its parameters, its clean body -/
structure DefI where
  x : Str
  st : Stmt
  N : List Str
  ps : List Str
  body : Fns → MS
  /-- math.gcd under its own name -/
  bf : Bool := false
structure IsGcd (mg : Str → Option Value) (d : DefI) : Prop where
  x : d.x = "gcd"
  m : mg d.x = some (.builtin "math.gcd")
  p : d.ps.length = 2
  n : d.N.length = 2
  b : d.body = fun _ => gcdS
def fnsOf (ds : List DefI) : List FnD := ds.map fun d => ⟨d.ps.length, d.N.length, d.body⟩
def ftOf (ds : List DefI) : List (Str × Nat) := ds.mapIdx fun i d => (d.x, i)
def scOk (N P : List Str) (sc : Scope) : Bool :=
  (match sc.kind with | .function => true | _ => false) && !sc.isCoroutine && !sc.isGenerator && decide N.Nodup && decide (N.take P.length = P) &&
    (P.all fun x => locK (sc.names.lookup x)) && (sc.names.all fun y => match y.2 with | .free => false | _ => true)
theorem scOk_iff {N P : List Str} {sc : Scope} (h : scOk N P sc = true) : FnScope N P sc := by
  unfold scOk at h
  simp only [Bool.and_eq_true, decide_eq_true_eq, List.all_eq_true, Bool.not_eq_true'] at h
  obtain ⟨⟨⟨⟨⟨⟨h1, h2⟩, h3⟩, h4⟩, h5⟩, h6⟩, h7⟩ := h
  refine ⟨?_, h2, h3, h4, h5, fun x hx => locK_iff (h6 x hx), fun y hy e => ?_⟩
  · split at h1
    · assumption
    · cases h1
  · have := h7 y hy
    rw [e] at this
    cases this
/-- the def compiles to its clean body -/
structure DefC (FT : List (Str × Nat)) (d : DefI) : Prop where
  sc : scOk d.N d.ps (defScope d.st) = true
  run : ∀ Γ, compSs Γ FT d.N 100 (defScope d.st) (fun _ => true) (defBody d.st) = some (d.body Γ)
structure DefF (K : PySem.W.Frag) (mg : Str → Option Value) (d : DefI) (fa : Addr) (fd : FuncData) : Prop where
  f : Fun K d.x d.x d.st fa fd
  m : mg d.x = some (.ref fa)
  b : Binds K fd d.ps []
theorem ftOf_get {ds : List DefI} {x : Str} {i : Nat} (h : (ftOf ds).lookup x = some i) : ∃ d, ds[i]? = some d ∧ d.x = x := by
  have hm : (x, i) ∈ ftOf ds := PySem.mem_of_lookup h
  unfold ftOf at hm
  rw [List.mem_iff_getElem?] at hm
  obtain ⟨j, hj⟩ := hm
  rw [List.getElem?_mapIdx, Option.map_eq_some_iff] at hj
  obtain ⟨d, h1, h2⟩ := hj
  cases h2
  exact ⟨d, h1, rfl⟩
theorem runF_len {ds : List DefI} {k i : Nat} {d : DefI} (hi : ds[i]? = some d) {as : List D} {h h' : Hh} {r : D} (e : runF (fnsOf ds) k i as h = .ok r h') : as.length = d.ps.length := by
  cases k with
  | zero => cases e
  | succ k =>
    unfold runF at e
    have : (fnsOf ds)[i]? = some ⟨d.ps.length, d.N.length, d.body⟩ := by unfold fnsOf; rw [List.getElem?_map, hi]; rfl
    rw [this] at e
    simp only at e
    split at e
    · assumption
    · cases e
theorem runF_succ {ds : List DefI} {k i : Nat} {d : DefI} (hi : ds[i]? = some d) : runF (fnsOf ds) (k + 1) i = fnG d.ps.length d.N.length (d.body (runF (fnsOf ds) k)) := by
  have : (fnsOf ds)[i]? = some ⟨d.ps.length, d.N.length, d.body⟩ := by unfold fnsOf; rw [List.getElem?_map, hi]; rfl
  funext as h
  simp only [runF, fnG, this]
theorem gcd_ok {ds : List DefI} {mg : Str → Option Value} {k i : Nat} {d : DefI} (hi : ds[i]? = some d) (hg : IsGcd mg d) : GcdF (runF (fnsOf ds) k i) := fun as h r h' e => by
  have hl := runF_len hi e
  cases k with
  | zero => cases e
  | succ k =>
    rw [runF_succ hi, hg.b, hg.p, hg.n] at e
    rw [hg.p] at hl
    match as, hl with
    | [x, y], _ =>
      unfold fnG at e
      rw [if_pos (show [x, y].length = 2 from rfl)] at e
      unfold gcdS at e
      cases x with
      | ref _ => cases y <;> cases e
      | p x =>
        cases y with
        | ref _ => cases x <;> cases e
        | p y =>
          cases x <;> cases y <;> first | (cases e; done) | skip
          rename_i a b _
          have : r = .p (.int ((Nat.gcd a.natAbs b.natAbs : Nat) : Int)) ∧ h' = h := by
            cases e
            exact ⟨rfl, List.take_length⟩
          exact ⟨a, b, rfl, this.1, this.2⟩
theorem all_ok {P : Program} {w : World} {K : PySem.W.Frag} {mg : Str → Option Value} {base : Heap} {ds : List DefI} (hc : ∀ d ∈ ds, d.bf = false → DefC (ftOf ds) d) (hb : ∀ x ∈ bltNames, mg x = none) (hf : ∀ d ∈ ds, d.bf = false → ∃ fa fd, DefF K mg d fa fd) (hg : ∀ d ∈ ds, d.bf = true → IsGcd mg d) :
    ∀ (k i : Nat) (d : DefI) (fa : Addr) (fd : FuncData), ds[i]? = some d → d.bf = false → DefF K mg d fa fd → FnOk P w K mg base CX0 k fa fd d.ps (SpF K d.ps.length (runF (fnsOf ds) k i))
  | 0, i, d, fa, fd, hi, _, F => ⟨fun vs H Q E h => h.1, fun A outer s H args us vs Q E hr he hb hv hs => by
      obtain ⟨_, _, _, _, _, _, _, _, e, _⟩ := hs
      cases e⟩
  | k + 1, i, d, fa, fd, hi, hbf, F => by
    have IH := all_ok (P := P) (w := w) (base := base) hc hb hf hg k
    have hd : d ∈ ds := List.mem_of_getElem? hi
    rw [runF_succ hi]
    refine fn_ok F.f (scOk_iff (hc d hd hbf).sc) fun cdv A outer s H E hr => ?_
    refine (sndm_all 100).Ss (Γ := runF (fnsOf ds) k) (FT := ftOf ds) (N := d.N) (k := k) (sc := defScope d.st) (fnc := fun _ => true) ?_ ((hc d hd hbf).run _)
    refine ⟨rfl, (scOk_iff (hc d hd hbf).sc).nd, rfl, rfl, rfl, hr, rfl, hb, fun x f hx => ?_⟩
    obtain ⟨d', hi', ex⟩ := ftOf_get hx
    cases hb' : d'.bf with
    | true =>
      have z := hg d' (List.mem_of_getElem? hi') hb'
      subst ex
      exact ⟨2, .inl ⟨z.x, z.m, gcd_ok hi' z⟩⟩
    | false =>
    obtain ⟨fa', fd', F'⟩ := hf d' (List.mem_of_getElem? hi') hb'
    subst ex
    exact ⟨d'.ps.length, .inr ⟨fun as h r h' e => runF_len hi' e, fa', fd', d'.ps, rfl, F'.m, F'.f.kp, F'.b, IH f d' fa' fd' hi' hb' F'⟩⟩
/-- the end: the law's run in the clean functions gives True -/
theorem law_true {K : PySem.W.Frag} {H : Hp} {a : Addr} {ns : List Int} {g : List D → Hh → Res D} (hS : SqL K H a (ns.map V.int)) (hO : Only H)
    (h : ∃ h', g [.ref 0] [.rol (ns.map fun n => .p (.int n))] = .ok (.p (.bl true)) h') : SpF K 1 g [.ref a] H (fun v _ => v = .bl true) (fun _ _ _ => False) := by
  obtain ⟨h', e⟩ := h
  have rds : ∀ (ι : Nat → Addr) (l : List Int), RDs K ι 0 H (l.map V.int) (l.map fun n => .p (.int n)) := fun ι l => by
    induction l with
    | nil => exact .nil
    | cons x l ih => exact .cons (.p (.int x)) ih
  have ro : RoL K H a (ns.map V.int) := by
    rcases hS with (q | ⟨o, q⟩) | q
    · rcases hO a with z | ⟨o, xs, z⟩
      · rw [z] at q; cases q
      · rw [z] at q; cases q
    · exact .inl ⟨o, q⟩
    · exact .inr q
  refine ⟨rfl, fun _ => a, [.rol (ns.map fun n => .p (.int n))], [.ref 0], ⟨fun i j as bs e1 e2 _ => ?_, fun i c e => ?_⟩, .cons (.ref (ι := fun _ => a) (by simp)) .nil, _, h', e, fun v ι' H' L R r => ?_⟩
  · have := get_lt e1
    have := get_lt e2
    simp at *
    omega
  · have hi := get_lt e
    have hi0 : i = 0 := by simp at hi; exact hi
    subst hi0
    cases e
    exact ⟨_, ro, rds _ _⟩
  · cases r with | p r => cases r; rfl
end MP
end

section
set_option autoImplicit false
set_option linter.all false
/-! MPWp: what is wanted of a clean run. -/
namespace MP
def Res.sat {α : Type} (r : Res α) (Q : α → Hh → Prop) : Prop :=
  match r with
  | .ok a h => Q a h
  | _ => False
def Out.sat (o : Out) (N : Ev → Hh → Prop) (R : D → Hh → Prop) (B C : Ev → Hh → Prop) : Prop :=
  match o with
  | .nx ρ h => N ρ h
  | .rt d h => R d h
  | .bk ρ h => B ρ h
  | .ct ρ h => C ρ h
  | _ => False
abbrev F2 : Ev → Hh → Prop := fun _ _ => False
section
variable {α β : Type} {ρ : Ev} {h h' : Hh} {Q : D → Hh → Prop} {N B C : Ev → Hh → Prop} {R : D → Hh → Prop}
@[simp] theorem sat_ok {a : α} {Q : α → Hh → Prop} : (Res.ok a h).sat Q ↔ Q a h := Iff.rfl
@[simp] theorem sat_stuck {Q : α → Hh → Prop} : (Res.stuck : Res α).sat Q ↔ False := Iff.rfl
@[simp] theorem sat_exc {x : Exn} {Q : α → Hh → Prop} : (Res.exc x h : Res α).sat Q ↔ False := Iff.rfl
@[simp] theorem sat_bind {r : Res α} {k : α → Hh → Res β} {Q : β → Hh → Prop} : (r.bind k).sat Q ↔ r.sat fun a h => (k a h).sat Q := by cases r <;> rfl
@[simp] theorem sat_out {r : Res α} {k : α → Hh → Out} : (r.out k).sat N R B C ↔ r.sat fun a h => (k a h).sat N R B C := by cases r <;> rfl
theorem sat_mono {r : Res α} {Q Q' : α → Hh → Prop} (s : r.sat Q) (i : ∀ a h, Q a h → Q' a h) : r.sat Q' := by
  cases r with
  | ok a h => exact i a h s
  | exc x h => exact s
  | stuck => exact s
theorem sat_get {r : Res α} {Q : α → Hh → Prop} (s : r.sat Q) : ∃ a h, r = .ok a h ∧ Q a h := by
  cases r with
  | ok a h => exact ⟨a, h, rfl, s⟩
  | exc x h => exact s.elim
  | stuck => exact s.elim
@[simp] theorem sat_okP {x : P} : (okP x h).sat Q ↔ Q (.p x) h := Iff.rfl
@[simp] theorem osat_nx : (Out.nx ρ h).sat N R B C ↔ N ρ h := Iff.rfl
@[simp] theorem osat_rt {d : D} : (Out.rt d h).sat N R B C ↔ R d h := Iff.rfl
@[simp] theorem osat_bk : (Out.bk ρ h).sat N R B C ↔ B ρ h := Iff.rfl
@[simp] theorem osat_ct : (Out.ct ρ h).sat N R B C ↔ C ρ h := Iff.rfl
@[simp] theorem osat_stuck : Out.stuck.sat N R B C ↔ False := Iff.rfl
@[simp] theorem sat_ite {c : Prop} [Decidable c] {a b : Res α} {Q : α → Hh → Prop} : (if c then a else b).sat Q ↔ if c then a.sat Q else b.sat Q := by split <;> rfl
@[simp] theorem osat_ite {c : Prop} [Decidable c] {a b : Out} : (if c then a else b).sat N R B C ↔ if c then a.sat N R B C else b.sat N R B C := by split <;> rfl
/-! expressions -/
@[simp] theorem w_v {i : Nat} : (mv i ρ h).sat Q ↔ match ρ[i]? with | some (some d) => Q d h | _ => False := by
  unfold mv
  cases e : ρ[i]? with
  | none => rfl
  | some o => cases o <;> rfl
@[simp] theorem w_c {x : P} : (mc x ρ h).sat Q ↔ Q (.p x) h := Iff.rfl
@[simp] theorem w_gc {m : ME} : (mgc m ρ h).sat Q ↔ (m ρ h).sat fun d h' => (gcv h.length d h').sat Q := sat_bind
@[simp] theorem w_nil {Q : List D → Hh → Prop} : (mes [] ρ h).sat Q ↔ Q [] h := Iff.rfl
@[simp] theorem w_cons {m : ME} {ms : List ME} {Q : List D → Hh → Prop} : (mes (m :: ms) ρ h).sat Q ↔ (m ρ h).sat fun d h1 => (mes ms ρ h1).sat fun ds h2 => Q (d :: ds) h2 := by
  show (Res.bind _ _).sat Q ↔ _
  simp only [sat_bind, sat_ok]
@[simp] theorem w_tup {ms : List ME} : (mtup ms ρ h).sat Q ↔ (mes ms ρ h).sat fun ds h1 => match pures ds with | some xs => xs.length ≤ szl ∧ Q (.p (.tup xs)) h1 | none => False := by
  show (Res.bind _ _).sat Q ↔ _
  rw [sat_bind]
  refine iff_of_eq (congrArg _ (funext fun ds => funext fun h1 => propext ?_))
  cases e : pures ds with
  | some xs =>
    simp only [sat_ite, sat_ok, sat_stuck]
    constructor
    · intro z
      split at z
      · rename_i hz; exact ⟨hz, z⟩
      · exact z.elim
    · intro z
      rw [if_pos z.1]; exact z.2
  | none => rfl
theorem w_newL {xs : List D} : (newL xs h).sat Q ↔ (xs.length ≤ szl ∧ Q (.ref h.length) (h ++ [.lst xs])) := by
  unfold newL
  simp only [sat_ite, sat_ok, sat_stuck]
  constructor
  · intro z
    split at z
    · rename_i hz; exact ⟨hz, z⟩
    · exact z.elim
  · intro z
    rw [if_pos z.1]; exact z.2
@[simp] theorem w_lst {ms : List ME} : (mlst ms ρ h).sat Q ↔ (mes ms ρ h).sat fun ds h1 => ds.length ≤ szl ∧ Q (.ref h1.length) (h1 ++ [.lst ds]) := by
  show (Res.bind _ _).sat Q ↔ _
  simp only [sat_bind, w_newL]
@[simp] theorem w_bin {o : Bop} {a b : ME} : (mbin o a b ρ h).sat Q ↔ (a ρ h).sat fun x h1 => (b ρ h1).sat fun y h2 => (bopD o x y h2).sat Q := by
  show (Res.bind _ _).sat Q ↔ _
  simp only [sat_bind]
@[simp] theorem w_neg {a : ME} : (mneg a ρ h).sat Q ↔ (a ρ h).sat fun x h1 => (negD x h1).sat Q := sat_bind
@[simp] theorem w_cmp {o : Cop} {a b : ME} {Q : Bool → Hh → Prop} : (mcmpT o a b ρ h).sat Q ↔ (a ρ h).sat fun x h1 => (b ρ h1).sat fun y h2 => (copD o x y h2).sat Q := by
  show (Res.bind _ _).sat Q ↔ _
  simp only [sat_bind]
@[simp] theorem w_isn {n : Bool} {a : ME} {Q : Bool → Hh → Prop} : (misnT n a ρ h).sat Q ↔ (a ρ h).sat fun x h1 => Q (isNone x != n) h1 := by
  show (Res.bind _ _).sat Q ↔ _
  simp only [sat_bind, sat_ok]
@[simp] theorem w_B {t : MT} : (mB t ρ h).sat Q ↔ (t ρ h).sat fun b h1 => Q (.p (.bl b)) h1 := by
  show (Res.bind _ _).sat Q ↔ _
  simp only [sat_bind, sat_ok]
@[simp] theorem w_tru {a : ME} {Q : Bool → Hh → Prop} : (mtru a ρ h).sat Q ↔ (a ρ h).sat fun x h1 => (truD x h1).sat Q := sat_bind
@[simp] theorem w_notT {t : MT} {Q : Bool → Hh → Prop} : (mnotT t ρ h).sat Q ↔ (t ρ h).sat fun b h1 => Q (!b) h1 := by
  show (Res.bind _ _).sat Q ↔ _
  simp only [sat_bind, sat_ok]
@[simp] theorem w_andT {t u : MT} {Q : Bool → Hh → Prop} : (mandT t u ρ h).sat Q ↔ (t ρ h).sat fun b h1 => if b = true then (u ρ h1).sat Q else Q false h1 := by
  show (Res.bind _ _).sat Q ↔ _
  simp only [sat_bind, sat_ite, sat_ok]
@[simp] theorem w_orT {t u : MT} {Q : Bool → Hh → Prop} : (morT t u ρ h).sat Q ↔ (t ρ h).sat fun b h1 => if b = true then Q true h1 else (u ρ h1).sat Q := by
  show (Res.bind _ _).sat Q ↔ _
  simp only [sat_bind, sat_ite, sat_ok]
@[simp] theorem w_not {a : ME} : (mnot a ρ h).sat Q ↔ (a ρ h).sat fun x h1 => (truD x h1).sat fun b h2 => Q (.p (.bl (!b))) h2 := by
  show (Res.bind _ _).sat Q ↔ _
  simp only [sat_bind, sat_ok]
@[simp] theorem w_and {a b : ME} : (mand a b ρ h).sat Q ↔ (a ρ h).sat fun x h1 => (truD x h1).sat fun k h2 => if k = true then (b ρ h2).sat Q else Q x h2 := by
  show (Res.bind _ _).sat Q ↔ _
  simp only [sat_bind, sat_ite, sat_ok]
@[simp] theorem w_or {a b : ME} : (mor a b ρ h).sat Q ↔ (a ρ h).sat fun x h1 => (truD x h1).sat fun k h2 => if k = true then Q x h2 else (b ρ h2).sat Q := by
  show (Res.bind _ _).sat Q ↔ _
  simp only [sat_bind, sat_ite, sat_ok]
@[simp] theorem w_ifx {t : MT} {a b : ME} : (mifx t a b ρ h).sat Q ↔ (t ρ h).sat fun k h1 => if k = true then (a ρ h1).sat Q else (b ρ h1).sat Q := by
  show (Res.bind _ _).sat Q ↔ _
  simp only [sat_bind, sat_ite]
@[simp] theorem w_idx {a b : ME} : (midx a b ρ h).sat Q ↔ (a ρ h).sat fun x h1 => (b ρ h1).sat fun y h2 => (idxD x y h2).sat Q := by
  show (Res.bind _ _).sat Q ↔ _
  simp only [sat_bind]
@[simp] theorem w_o0 {Q : Option Int → Hh → Prop} : (mo0 ρ h).sat Q ↔ Q none h := Iff.rfl
@[simp] theorem w_o1 {a : ME} {Q : Option Int → Hh → Prop} : (mo1 a ρ h).sat Q ↔ (a ρ h).sat fun x h1 => match x with | .p (.int i) => Q (some i) h1 | _ => False := by
  show (Res.bind _ _).sat Q ↔ _
  rw [sat_bind]
  refine iff_of_eq (congrArg _ (funext fun x => funext fun h1 => propext ?_))
  cases x with
  | ref n => rfl
  | p y => cases y <;> rfl
@[simp] theorem w_cut {a : ME} {lo hi : MO} : (mcut a lo hi ρ h).sat Q ↔ (a ρ h).sat fun x h1 => (lo ρ h1).sat fun l h2 => (hi ρ h2).sat fun u h3 => (cutD x l u h3).sat Q := by
  show (Res.bind _ _).sat Q ↔ _
  simp only [sat_bind]
@[simp] theorem w_blt {b : Blt} {ms : List ME} : (mblt b ms ρ h).sat Q ↔ (mes ms ρ h).sat fun ds h1 => (bltD b ds h1).sat Q := sat_bind
@[simp] theorem w_isi {t : Ty} {a : ME} : (misi t a ρ h).sat Q ↔ (a ρ h).sat fun x h1 => Q (.p (.bl (isTy t x))) h1 := by
  show (Res.bind _ _).sat Q ↔ _
  simp only [sat_bind, sat_okP]
@[simp] theorem w_mth {m : Mth} {o : ME} {ms : List ME} : (mmth m o ms ρ h).sat Q ↔ (o ρ h).sat fun x h1 => (mes ms ρ h1).sat fun ds h2 => (mthD m x ds h2).sat Q := by
  show (Res.bind _ _).sat Q ↔ _
  simp only [sat_bind]
@[simp] theorem w_r1 {a : ME} {Q : Int × Int → Hh → Prop} : (mr1 a ρ h).sat Q ↔ (a ρ h).sat fun x h1 => match x with | .p (.int i) => Q (0, i) h1 | _ => False := by
  show (Res.bind _ _).sat Q ↔ _
  rw [sat_bind]
  refine iff_of_eq (congrArg _ (funext fun x => funext fun h1 => propext ?_))
  cases x with
  | ref n => rfl
  | p y => cases y <;> rfl
@[simp] theorem w_r2 {a b : ME} {Q : Int × Int → Hh → Prop} : (mr2 a b ρ h).sat Q ↔ (a ρ h).sat fun x h1 => (b ρ h1).sat fun y h2 => match x, y with | .p (.int i), .p (.int j) => Q (i, j) h2 | _, _ => False := by
  show (Res.bind _ _).sat Q ↔ _
  simp only [sat_bind]
  refine iff_of_eq (congrArg _ (funext fun x => funext fun h1 => congrArg _ (funext fun y => funext fun h2 => propext ?_)))
  cases x with
  | ref n => rfl
  | p x =>
    cases y with
    | ref n => cases x <;> rfl
    | p y => cases x <;> cases y <;> rfl
@[simp] theorem w_lrg {r : MR} : (mlrg r ρ h).sat Q ↔ (r ρ h).sat fun ab h1 => rgOk ab.1 ab.2 = true ∧ (newL (rgL ab.1 ab.2) h1).sat Q := by
  show (Res.bind _ _).sat Q ↔ _
  rw [sat_bind]
  refine iff_of_eq (congrArg _ (funext fun x => funext fun h1 => propext ?_))
  simp only [sat_ite, sat_stuck]
  constructor
  · intro z
    split at z
    · rename_i hz; exact ⟨hz, z⟩
    · exact z.elim
  · intro z
    rw [if_pos z.1]; exact z.2
@[simp] theorem w_call {Γ : Fns} {f : Nat} {ms : List ME} : (mcall Γ f ms ρ h).sat Q ↔ (mes ms ρ h).sat fun ds h1 => (Γ f ds h1).sat Q := sat_bind
/-! targets -/
@[simp] theorem w_gnm {i : Nat} {d : D} {Q : Ev → Hh → Prop} : (gnm i d ρ h).sat Q ↔ (i < ρ.length ∧ Q (ρ.set i (some d)) h) := by
  unfold gnm
  simp only [sat_ite, sat_ok, sat_stuck]
  constructor
  · intro z
    split at z
    · rename_i hz; exact ⟨hz, z⟩
    · exact z.elim
  · intro z
    rw [if_pos z.1]; exact z.2
@[simp] theorem w_gsub {o i : ME} {d : D} {Q : Ev → Hh → Prop} : (gsub o i d ρ h).sat Q ↔ (o ρ h).sat fun x h1 => (i ρ h1).sat fun y h2 => (setD x y d h2).sat fun _ h3 => Q ρ h3 := by
  show (Res.bind _ _).sat Q ↔ _
  simp only [sat_bind, sat_ok]
@[simp] theorem w_gnms0 {Q : Ev → Hh → Prop} : (gnms [] [] ρ h).sat Q ↔ Q ρ h := Iff.rfl
@[simp] theorem w_gnms1 {g : MG} {gs : List MG} {d : D} {ds : List D} {Q : Ev → Hh → Prop} : (gnms (g :: gs) (d :: ds) ρ h).sat Q ↔ (g d ρ h).sat fun ρ1 h1 => (gnms gs ds ρ1 h1).sat Q := sat_bind
@[simp] theorem w_gtup {gs : List MG} {xs : List P} {Q : Ev → Hh → Prop} : (gtup gs (.p (.tup xs)) ρ h).sat Q ↔ (gnms gs (xs.map .p) ρ h).sat Q := Iff.rfl
theorem w_gtupl {gs : List MG} {n : Nat} {xs : List D} {Q : Ev → Hh → Prop} (hn : seqAt h n = some xs) : (gtup gs (.ref n) ρ h).sat Q ↔ (gnms gs xs ρ h).sat Q := by
  unfold gtup
  simp only [hn]
/-! statements -/
@[simp] theorem w_skip : (sskip ρ h).sat N R B C ↔ N ρ h := Iff.rfl
@[simp] theorem w_seq {a b : MS} : (sseq a b ρ h).sat N R B C ↔ (a ρ h).sat (fun ρ1 h1 => (b ρ1 h1).sat N R B C) R B C := by
  unfold sseq
  cases a ρ h <;> rfl
@[simp] theorem w_seqs0 : (sseqs [] ρ h).sat N R B C ↔ N ρ h := Iff.rfl
@[simp] theorem w_seqs1 {a : MS} {as : List MS} : (sseqs (a :: as) ρ h).sat N R B C ↔ (a ρ h).sat (fun ρ1 h1 => (sseqs as ρ1 h1).sat N R B C) R B C := w_seq
@[simp] theorem w_asg {g : MG} {e : ME} : (sasg g e ρ h).sat N R B C ↔ (mgc e ρ h).sat fun d h1 => (g d ρ h1).sat fun ρ1 h2 => N ρ1 h2 := by
  show (Res.out _ _).sat N R B C ↔ _
  simp only [sat_out, osat_nx]
@[simp] theorem w_exp {e : ME} : (sexp e ρ h).sat N R B C ↔ (mgc e ρ h).sat fun d h1 => N ρ h1 := by
  show (Res.out _ _).sat N R B C ↔ _
  simp only [sat_out, osat_nx]
@[simp] theorem w_ret {e : ME} : (sret e ρ h).sat N R B C ↔ (mgc e ρ h).sat fun d h1 => R d h1 := by
  show (Res.out _ _).sat N R B C ↔ _
  simp only [sat_out, osat_rt]
@[simp] theorem w_retN : (sretN ρ h).sat N R B C ↔ R (.p .non) h := Iff.rfl
@[simp] theorem w_brk : (sbrk ρ h).sat N R B C ↔ B ρ h := Iff.rfl
@[simp] theorem w_cnt : (scnt ρ h).sat N R B C ↔ C ρ h := Iff.rfl
@[simp] theorem w_gcT {t : MT} {Q : Bool → Hh → Prop} : (mgcT t ρ h).sat Q ↔ (t ρ h).sat fun b h1 => Q b (h1.take h.length) := by
  show (Res.bind _ _).sat Q ↔ _
  simp only [sat_bind, sat_ok]
@[simp] theorem w_if {t : MT} {a b : MS} : (sif t a b ρ h).sat N R B C ↔ (mgcT t ρ h).sat fun k h1 => if k = true then (a ρ h1).sat N R B C else (b ρ h1).sat N R B C := by
  show (Res.out _ _).sat N R B C ↔ _
  simp only [sat_out, osat_ite]
/-- a while, by a word over names and heap and a number that falls -/
theorem w_while {t : MT} {b : MS} (I : Ev → Hh → Prop) (μ : Ev → Hh → Nat) (h0 : I ρ h) (hm : μ ρ h < wfuel)
    (hs : ∀ ρ h, I ρ h → (mgcT t ρ h).sat fun k h1 => if k = true then (b ρ h1).sat (fun ρ2 h2 => I ρ2 h2 ∧ μ ρ2 h2 < μ ρ h) R N (fun ρ2 h2 => I ρ2 h2 ∧ μ ρ2 h2 < μ ρ h) else N ρ h1) :
    (swhile t b ρ h).sat N R B C := by
  have go : ∀ n ρ h, I ρ h → μ ρ h < n → (whG t b n ρ h).sat N R B C := by
    intro n
    induction n with
    | zero => intro ρ h _ z; omega
    | succ n ih =>
      intro ρ h i z
      unfold whG
      rw [sat_out]
      refine sat_mono (hs ρ h i) fun k h1 q => ?_
      cases k with
      | false =>
        rw [if_neg Bool.false_ne_true] at q ⊢
        exact q
      | true =>
        rw [if_pos rfl] at q ⊢
        cases e : b ρ h1 with
        | nx ρ2 h2 => rw [e] at q; exact ih ρ2 h2 q.1 (by have := q.2; omega)
        | ct ρ2 h2 => rw [e] at q; exact ih ρ2 h2 q.1 (by have := q.2; omega)
        | bk ρ2 h2 => rw [e] at q; exact q
        | rt d h2 => rw [e] at q; exact q
        | exc x h2 => rw [e] at q; exact q
        | stuck => rw [e] at q; exact q
  exact go wfuel ρ h h0 hm
/-- what is walked -/
@[simp] theorem w_ival {a : ME} {Q : Src → Hh → Prop} : (mival a ρ h).sat Q ↔ (a ρ h).sat fun x h1 => match x with
    | .p (.tup xs) => Q (srcL (xs.map .p)) h1
    | .ref n => match seqAt h1 n with | some xs => Q (srcRef n xs.length) h1 | none => False
    | _ => False := by
  show (Res.bind _ _).sat Q ↔ _
  rw [sat_bind]
  refine iff_of_eq (congrArg _ (funext fun x => funext fun h1 => propext ?_))
  cases x with
  | ref n =>
    show Res.sat (match seqAt h1 n with | some xs => .ok (srcRef n xs.length) h1 | none => .stuck) Q ↔ match seqAt h1 n with | some xs => Q (srcRef n xs.length) h1 | none => False
    cases seqAt h1 n <;> rfl
  | p y => cases y <;> rfl
@[simp] theorem w_irg {r : MR} {Q : Src → Hh → Prop} : (mirg r ρ h).sat Q ↔ (r ρ h).sat fun ab h1 => rgOk ab.1 ab.2 = true ∧ Q (srcR ab.1 ab.2) h1 := by
  show (Res.bind _ _).sat Q ↔ _
  rw [sat_bind]
  refine iff_of_eq (congrArg _ (funext fun x => funext fun h1 => propext ?_))
  simp only [sat_ite, sat_stuck, sat_ok]
  constructor
  · intro z
    split at z
    · rename_i hz; exact ⟨hz, z⟩
    · exact z.elim
  · intro z
    rw [if_pos z.1]; exact z.2
theorem osat_gcO {n : Nat} {o : Out} : (gcO n o).sat N R B C ↔ o.sat (fun ρ h => N ρ (gce n ρ h)) R B C := by cases o <;> rfl
@[simp] theorem w_for {it : MI} {g : MG} {b : MS} : (sfor it g b ρ h).sat N R B C ↔ (it ρ h).sat fun s h1 => (foG s g b (s.bound + 1) 0 ρ h1).sat (fun ρ2 h2 => N ρ2 (gce h.length ρ2 h2)) R B C := by
  unfold sfor
  rw [osat_gcO, sat_out]
/-- a for: the items xs as they stand at each turn -/
theorem w_fo {s : Src} {g : MG} {b : MS} (xs : List D) (I : Nat → Ev → Hh → Prop) (hb : xs.length ≤ s.bound) (h0 : I 0 ρ h)
    (hg : ∀ i ρ h, i ≤ xs.length → I i ρ h → s.get i h = some xs[i]?)
    (hs : ∀ i x ρ h, xs[i]? = some x → I i ρ h → (g x ρ h).sat fun ρ1 h1 => (b ρ1 h1).sat (I (i + 1)) R N (I (i + 1)))
    (hd : ∀ ρ h, I xs.length ρ h → N ρ h) : (foG s g b (s.bound + 1) 0 ρ h).sat N R B C := by
  have go : ∀ n i ρ h, i ≤ xs.length → xs.length < i + n → I i ρ h → (foG s g b n i ρ h).sat N R B C := by
    intro n
    induction n with
    | zero => intro i ρ h hi z _; omega
    | succ n ih =>
      intro i ρ h hi z w
      unfold foG
      rw [hg i ρ h hi w]
      cases e : xs[i]? with
      | none =>
        have : i = xs.length := by have := List.getElem?_eq_none_iff.mp e; omega
        subst this
        exact hd ρ h w
      | some x =>
        have hlt := (List.getElem?_eq_some_iff.mp e).1
        rw [sat_out]
        refine sat_mono (hs i x ρ h e w) fun ρ1 h1 q => ?_
        cases e : b ρ1 h1 with
        | nx ρ2 h2 => rw [e] at q; exact ih (i + 1) ρ2 h2 (by omega) (by omega) q
        | ct ρ2 h2 => rw [e] at q; exact ih (i + 1) ρ2 h2 (by omega) (by omega) q
        | bk ρ2 h2 => rw [e] at q; exact q
        | rt d h2 => rw [e] at q; exact q
        | exc x h2 => rw [e] at q; exact q
        | stuck => rw [e] at q; exact q
  exact go (s.bound + 1) 0 ρ h (by omega) (by omega) h0
@[simp] theorem w_lc {it : MI} {g : MG} {t : MT} {e : ME} {own : List Nat} : (mlc it g t e own ρ h).sat Q ↔ (it ρ h).sat fun s h1 => (lcG s g t e (wipe ρ own) (s.bound + 1) 0 [] h1).sat fun acc h2 => Q (.ref h2.length) (h2 ++ [.lst acc]) := by
  show (Res.bind _ _).sat Q ↔ _
  simp only [sat_bind, sat_ok]
/-- a comprehension: its items, what is gathered so far -/
theorem w_lcg {s : Src} {g : MG} {t : MT} {e : ME} {Q : List D → Hh → Prop} (xs : List D) (I : Nat → List D → Hh → Prop) (hb : xs.length ≤ s.bound) (h0 : I 0 [] h)
    (hg : ∀ i acc h, i ≤ xs.length → I i acc h → s.get i h = some xs[i]?)
    (hs : ∀ i x acc h, xs[i]? = some x → I i acc h → (g x ρ h).sat fun ρ1 h1 => (mgcT t ρ1 h1).sat fun k h2 => if k = true then (mgc e ρ1 h2).sat fun d h3 => acc.length < szl ∧ I (i + 1) (acc ++ [d]) h3 else I (i + 1) acc h2)
    (hd : ∀ acc h, I xs.length acc h → Q acc h) : (lcG s g t e ρ (s.bound + 1) 0 [] h).sat Q := by
  have go : ∀ n i acc h, i ≤ xs.length → xs.length < i + n → I i acc h → (lcG s g t e ρ n i acc h).sat Q := by
    intro n
    induction n with
    | zero => intro i acc h hi z _; omega
    | succ n ih =>
      intro i acc h hi z w
      unfold lcG
      rw [hg i acc h hi w]
      cases e1 : xs[i]? with
      | none =>
        have : i = xs.length := by have := List.getElem?_eq_none_iff.mp e1; omega
        subst this
        exact hd acc h w
      | some x =>
        have hlt := (List.getElem?_eq_some_iff.mp e1).1
        obtain ⟨ρ1, h1, e2, q⟩ := sat_get (hs i x acc h e1 w)
        simp only [e2]
        obtain ⟨k, h2, e3, q⟩ := sat_get q
        simp only [e3]
        cases k with
        | false =>
          rw [if_neg Bool.false_ne_true] at q
          exact ih (i + 1) acc h2 (by omega) (by omega) q
        | true =>
          rw [if_pos rfl] at q
          obtain ⟨d, h3, e4, q⟩ := sat_get q
          simp only [e4]
          rw [if_pos q.1]
          exact ih (i + 1) _ h3 (by omega) (by omega) q.2
  exact go (s.bound + 1) 0 [] h (by omega) (by omega) h0
/-- a function's end -/
@[simp] theorem w_end {n : Nat} {o : Out} : (endR n o).sat Q ↔ o.sat (fun _ h => Q (.p .non) (h.take n)) (fun d h => (gcv n d h).sat Q) F2 F2 := by cases o <;> rfl
/-! ### the heap's own lists -/
@[simp] theorem gcv_p {n : Nat} {x : P} : gcv n (.p x) h = .ok (.p x) (h.take n) := rfl
theorem gcv_old {n m : Nat} (hm : m < n) : gcv n (.ref m) h = .ok (.ref m) (h.take n) := by
  unfold gcv
  rw [if_pos (by simp [D.below, hm])]
theorem get_at (h : Hh) (l : List Cell) (k : Nat) : (h ++ l)[h.length + k]? = l[k]? := by
  rw [List.getElem?_append_right (by omega)]
  congr 1
  omega
theorem set_at (h : Hh) (l : List Cell) (k : Nat) (c : Cell) : (h ++ l).set (h.length + k) c = h ++ l.set k c := by
  rw [List.set_append_right _ _ (by omega)]
  congr 2
  omega
theorem take_at (h : Hh) (l : List Cell) (k : Nat) : (h ++ l).take (h.length + k) = h ++ l.take k := by
  rw [List.take_append]
  rw [List.take_of_length_le (by omega)]
  congr 2
  omega
/-- a new list behind its own -/
theorem gcv_new {l : List Cell} {k : Nat} {c : Cell} (hk : l[k]? = some c) (hc : c.below h.length = true) : gcv h.length (.ref (h.length + k)) (h ++ l) = .ok (.ref h.length) (h ++ [c]) := by
  unfold gcv
  rw [if_neg (by simp [D.below])]
  simp only [get_at, hk, hc, if_true]
  rw [show List.take h.length (h ++ l) = h from List.take_left' rfl]
theorem gcv_newN {n m : Nat} {l : List Cell} {k : Nat} {c : Cell} (hn : n = h.length) (hm : m = h.length + k) (hk : l[k]? = some c) (hc : c.below n = true) : gcv n (.ref m) (h ++ l) = .ok (.ref n) (h ++ [c]) := by
  subst hn hm
  exact gcv_new hk hc
@[simp] theorem pures_nil : pures [] = some [] := rfl
@[simp] theorem pures_p {x : P} {ds : List D} : pures (.p x :: ds) = (pures ds).map (x :: ·) := rfl
@[simp] theorem below_p {n : Nat} {x : P} : D.below n (.p x) = true := rfl
theorem seq_new (h : Hh) (c : Cell) (l : Hh) : seqAt (h ++ c :: l) h.length = some c.items := by
  unfold seqAt
  have := get_at h (c :: l) 0
  rw [Nat.add_zero] at this
  rw [this]; rfl
theorem lst_new (h : Hh) (xs : List D) (l : Hh) : lstAt (h ++ .lst xs :: l) h.length = some xs := by
  unfold lstAt
  have := get_at h (.lst xs :: l) 0
  rw [Nat.add_zero] at this
  rw [this]; rfl
theorem set_new (h : Hh) (c d : Cell) (l : Hh) : (h ++ c :: l).set h.length d = h ++ d :: l := by
  have := set_at h (c :: l) 0 d
  rw [Nat.add_zero] at this
  rw [this]; rfl
theorem take_new (h : Hh) (c : Cell) : (h ++ [c]).take (h.length + 1) = h ++ [c] := List.take_of_length_le (by simp)
theorem gcv_one (h : Hh) (l : List D) : gcv h.length (.ref h.length) (h ++ [.lst l]) = .ok (.ref h.length) (h ++ [.lst l]) := by
  unfold gcv
  rw [if_neg (by simp [D.below])]
  have := get_at h [.lst l] 0
  rw [Nat.add_zero] at this
  simp only [this, List.getElem?_cons_zero]
  split
  · rw [show List.take h.length (h ++ [.lst l]) = h from List.take_left' rfl]
  · rfl
theorem gce_full {n : Nat} {h : Hh} (ρ : Ev) (hn : n = h.length) : gce n ρ h = h := by
  subst hn
  unfold gce
  split
  · exact List.take_length
  · rfl
theorem gce_new (h : Hh) (c : Cell) (ρ : Ev) : gce (h.length + 1) ρ (h ++ [c]) = h ++ [c] := gce_full ρ (by simp)
/-! ### operators at data -/
@[simp] theorem sh_int {i : Int} : shaped (.int i) = true := rfl
@[simp] theorem sh_bl {b : Bool} : shaped (.bl b) = true := rfl
@[simp] theorem sh_str {x : PySem.Str} : shaped (.str x) = true := rfl
@[simp] theorem sh_non : shaped .non = true := rfl
@[simp] theorem o_add {i j : Int} : (bopD .add (.p (.int i)) (.p (.int j)) h).sat Q ↔ Q (.p (.int (i + j))) h := Iff.rfl
theorem sat_if_and {c : Prop} [Decidable c] {A : Prop} : (if c then A else False) ↔ c ∧ A := by
  constructor
  · intro z
    split at z
    · rename_i hc; exact ⟨hc, z⟩
    · exact z.elim
  · intro z; rw [if_pos z.1]; exact z.2
@[simp] theorem o_addt {xs ys : List P} : (bopD .add (.p (.tup xs)) (.p (.tup ys)) h).sat Q ↔ (xs.length + ys.length ≤ szl ∧ Q (.p (.tup (xs ++ ys))) h) := by
  show (Res.sat (if _ then _ else _) Q) ↔ _
  rw [sat_ite]; exact sat_if_and
theorem o_addl {a b : Nat} {xs ys : List D} (ha : lstAt h a = some xs) (hb : lstAt h b = some ys) : (bopD .add (.ref a) (.ref b) h).sat Q ↔ (xs.length + ys.length ≤ szl ∧ Q (.ref h.length) (h ++ [.lst (xs ++ ys)])) := by
  show (addD (.ref a) (.ref b) h).sat Q ↔ _
  unfold addD
  simp only [ha, hb]
  rw [w_newL, List.length_append]
@[simp] theorem o_sub {i j : Int} : (bopD .sub (.p (.int i)) (.p (.int j)) h).sat Q ↔ Q (.p (.int (i - j))) h := Iff.rfl
@[simp] theorem o_mul {i j : Int} : (bopD .mul (.p (.int i)) (.p (.int j)) h).sat Q ↔ ((inW i || inW j) = true ∧ Q (.p (.int (i * j))) h) := by
  show (Res.sat (if _ then _ else _) Q) ↔ _
  rw [sat_ite]; exact sat_if_and
@[simp] theorem o_mult {xs : List P} {j : Int} : (bopD .mul (.p (.tup xs)) (.p (.int j)) h).sat Q ↔ ((decide (1 ≤ j) && decide (j ≤ 1000) && decide (1 ≤ xs.length) && decide (xs.length ≤ 1000)) = true ∧ Q (.p (.tup (reps j.toNat xs))) h) := by
  show (Res.sat (if _ then _ else _) Q) ↔ _
  rw [sat_ite]; exact sat_if_and
theorem o_mull {a : Nat} {xs : List D} {j : Int} (ha : lstAt h a = some xs) : (bopD .mul (.ref a) (.p (.int j)) h).sat Q ↔ ((decide (-1000000 ≤ j) && decide (j ≤ 1000000) && decide (xs.length * j.toNat ≤ szl)) = true ∧ (newL (reps j.toNat xs) h).sat Q) := by
  show (mulD (.ref a) (.p (.int j)) h).sat Q ↔ _
  unfold mulD
  simp only [ha]
  rw [sat_ite]; exact sat_if_and
@[simp] theorem o_fdiv {i j : Int} : (bopD .fdiv (.p (.int i)) (.p (.int j)) h).sat Q ↔ ((decide (j ≠ 0) && decide (j.natAbs < 1073741824)) = true ∧ Q (.p (.int (i.fdiv j))) h) := by
  show (Res.sat (if _ then _ else _) Q) ↔ _
  rw [sat_ite]; exact sat_if_and
@[simp] theorem o_mod {i j : Int} : (bopD .mod (.p (.int i)) (.p (.int j)) h).sat Q ↔ (j ≠ 0 ∧ Q (.p (.int (i.fmod j))) h) := by
  show (Res.sat (if _ then _ else _) Q) ↔ _
  rw [sat_ite]; exact sat_if_and
@[simp] theorem o_pow {i j : Int} : (bopD .pow (.p (.int i)) (.p (.int j)) h).sat Q ↔ ((decide (0 ≤ j) && decide (j ≤ 1000) && decide (i.natAbs < 18446744073709551616)) = true ∧ Q (.p (.int (i ^ j.toNat))) h) := by
  show (Res.sat (if _ then _ else _) Q) ↔ _
  rw [sat_ite]; exact sat_if_and
@[simp] theorem o_neg {i : Int} : (negD (.p (.int i)) h).sat Q ↔ Q (.p (.int (-i))) h := Iff.rfl
variable {QB : Bool → Hh → Prop}
@[simp] theorem o_eq {a b : P} : (copD .eq (.p a) (.p b) h).sat QB ↔ ((shaped a && shaped b) = true ∧ QB (a.eqv b) h) := by
  show (Res.sat (if _ then _ else _) QB) ↔ _
  rw [sat_ite]; exact sat_if_and
@[simp] theorem o_ne {a b : P} : (copD .ne (.p a) (.p b) h).sat QB ↔ ((shaped a && shaped b) = true ∧ QB (!a.eqv b) h) := by
  show (Res.bind (if _ then _ else _) _).sat QB ↔ _
  rw [sat_bind, sat_ite]; exact sat_if_and
@[simp] theorem o_lt {i j : Int} : (copD .lt (.p (.int i)) (.p (.int j)) h).sat QB ↔ QB (decide (i < j)) h := Iff.rfl
@[simp] theorem o_le {i j : Int} : (copD .le (.p (.int i)) (.p (.int j)) h).sat QB ↔ QB (decide (i ≤ j)) h := Iff.rfl
@[simp] theorem o_gt {i j : Int} : (copD .gt (.p (.int i)) (.p (.int j)) h).sat QB ↔ QB (decide (j < i)) h := Iff.rfl
@[simp] theorem o_ge {i j : Int} : (copD .ge (.p (.int i)) (.p (.int j)) h).sat QB ↔ QB (decide (j ≤ i)) h := Iff.rfl
theorem o_inl {a : P} {n : Nat} {xs : List P} (hn : (seqAt h n).bind pures = some xs) : (copD .isin (.p a) (.ref n) h).sat QB ↔ ((shaped a && shaped (.tup xs)) = true ∧ QB (xs.any fun z => z.eqv a) h) := by
  show (inD (.p a) (.ref n) h).sat QB ↔ _
  unfold inD
  simp only [hn]
  rw [sat_ite]; exact sat_if_and
theorem o_ninl {a : P} {n : Nat} {xs : List P} (hn : (seqAt h n).bind pures = some xs) : (copD .notin (.p a) (.ref n) h).sat QB ↔ ((shaped a && shaped (.tup xs)) = true ∧ QB (!xs.any fun z => z.eqv a) h) := by
  show (Res.bind (inD (.p a) (.ref n) h) _).sat QB ↔ _
  unfold inD
  simp only [hn, sat_bind]
  rw [sat_ite]; exact sat_if_and
@[simp] theorem t_bl {b : Bool} : (truD (.p (.bl b)) h).sat QB ↔ QB b h := Iff.rfl
@[simp] theorem t_int {i : Int} : (truD (.p (.int i)) h).sat QB ↔ QB (i != 0) h := Iff.rfl
@[simp] theorem t_non : (truD (.p .non) h).sat QB ↔ QB false h := Iff.rfl
@[simp] theorem t_tup {xs : List P} : (truD (.p (.tup xs)) h).sat QB ↔ QB (!xs.isEmpty) h := Iff.rfl
theorem o_idxt {xs : List P} {i : Int} {x : P} (e : atI xs i = some x) : (idxD (.p (.tup xs)) (.p (.int i)) h).sat Q ↔ Q (.p x) h := by
  unfold idxD
  simp only [e]
  rfl
theorem o_idxl {n : Nat} {xs : List D} {i : Int} {x : D} (hn : seqAt h n = some xs) (e : atI xs i = some x) : (idxD (.ref n) (.p (.int i)) h).sat Q ↔ Q x h := by
  unfold idxD
  simp only [hn, Option.bind_some, e]
  rfl
@[simp] theorem o_cutt {xs : List P} {lo hi : Option Int} : (cutD (.p (.tup xs)) lo hi h).sat Q ↔ Q (.p (.tup (cut xs lo hi))) h := Iff.rfl
theorem o_cutl {n : Nat} {xs : List D} {lo hi : Option Int} (hn : seqAt h n = some xs) : (cutD (.ref n) lo hi h).sat Q ↔ (newL (cut xs lo hi) h).sat Q := by
  unfold cutD
  simp only [hn]
@[simp] theorem o_lent {xs : List P} : (bltD .len [.p (.tup xs)] h).sat Q ↔ Q (.p (.int xs.length)) h := Iff.rfl
theorem o_lenl {n : Nat} {xs : List D} (hn : seqAt h n = some xs) : (bltD .len [.ref n] h).sat Q ↔ Q (.p (.int xs.length)) h := by
  show (lenD (.ref n) h).sat Q ↔ _
  unfold lenD
  simp only [hn]
  rfl
@[simp] theorem o_abs {i : Int} : (bltD .abs [.p (.int i)] h).sat Q ↔ Q (.p (.int (if i < 0 then -i else i))) h := Iff.rfl
@[simp] theorem o_min {i j : Int} : (bltD .min2 [.p (.int i), .p (.int j)] h).sat Q ↔ Q (.p (.int (if j < i then j else i))) h := Iff.rfl
@[simp] theorem o_max {i j : Int} : (bltD .max2 [.p (.int i), .p (.int j)] h).sat Q ↔ Q (.p (.int (if j > i then j else i))) h := Iff.rfl
@[simp] theorem o_int {i : Int} : (bltD .int [.p (.int i)] h).sat Q ↔ Q (.p (.int i)) h := Iff.rfl
@[simp] theorem o_intb {b : Bool} : (bltD .int [.p (.bl b)] h).sat Q ↔ Q (.p (.int (if b then 1 else 0))) h := Iff.rfl
@[simp] theorem o_listt {xs : List P} : (bltD .list [.p (.tup xs)] h).sat Q ↔ (newL (xs.map .p) h).sat Q := Iff.rfl
theorem o_listl {n : Nat} {xs : List D} (hn : seqAt h n = some xs) : (bltD .list [.ref n] h).sat Q ↔ (newL xs h).sat Q := by
  show (listD (.ref n) h).sat Q ↔ _
  unfold listD
  simp only [hn]
@[simp] theorem o_tuplet {xs : List P} : (bltD .tuple [.p (.tup xs)] h).sat Q ↔ Q (.p (.tup xs)) h := Iff.rfl
theorem o_tuplel {n : Nat} {xs : List P} (hn : (seqAt h n).bind pures = some xs) : (bltD .tuple [.ref n] h).sat Q ↔ Q (.p (.tup xs)) h := by
  show (tupleD (.ref n) h).sat Q ↔ _
  unfold tupleD
  simp only [hn]
  rfl
theorem o_append {n : Nat} {xs : List D} {d : D} (hn : lstAt h n = some xs) : (mthD .append (.ref n) [d] h).sat Q ↔ ((decide (xs.length < szl) && d.below n) = true ∧ Q (.p .non) (h.set n (.lst (xs ++ [d])))) := by
  show (appendD n d h).sat Q ↔ _
  unfold appendD
  simp only [hn]
  rw [sat_ite]; exact sat_if_and
theorem o_pop1 {n : Nat} {xs : List D} {i : Int} {y : D} (hn : lstAt h n = some xs) (h0 : 0 ≤ i) (h1 : i ≤ 1000000000) (hy : xs[i.toNat]? = some y) : (mthD .pop1 (.ref n) [.p (.int i)] h).sat Q ↔ Q y (h.set n (.lst (xs.eraseIdx i.toNat))) := by
  have hl := (List.getElem?_eq_some_iff.mp hy).1
  show (pop1D n (.p (.int i)) h).sat Q ↔ _
  unfold pop1D ixN
  simp only [hn]
  rw [if_pos (by simp; omega), if_pos h0, if_pos (by omega)]
  simp only [hy]
  rfl
theorem o_set {n : Nat} {xs : List D} {i : Int} {j : Nat} {d : D} {QU : Unit → Hh → Prop} (hn : lstAt h n = some xs) (hj : ixN xs.length i = some j) : (setD (.ref n) (.p (.int i)) d h).sat QU ↔ (d.below n = true ∧ QU () (h.set n (.lst (xs.set j d)))) := by
  unfold setD
  simp only [hn, hj]
  rw [sat_ite]; exact sat_if_and
end
end MP
end

section
set_option autoImplicit false
set_option linter.all false
/-! MPLaw: the defs that all laws share. -/
namespace MP
def izs (xs : List Int) : List D := xs.map fun n => .p (.int n)
@[simp] theorem izs_len (xs : List Int) : (izs xs).length = xs.length := by unfold izs; rw [List.length_map]
structure Tp where
  pos : Int
  num : Int
  mix : Int
def Tp.cell (T : Tp) : Cell := .lst [.ref 1, .p (.int T.pos), .p (.int T.num), .p (.int T.mix)]
/-- the script, its copy, the tape, the rest -/
def hp (S : List Int) (T : Tp) (g : Hh) : Hh := .rol (izs S) :: .lst (izs S) :: T.cell :: g
/-- law_draw -/
def cDraw : MS := sseqs [
    sif (mcmpT .eq (midx (mv 0) (mc (.int 2))) (mc (.int 0))) (sseqs [sasg (gnm 3) (midx (mv 0) (mc (.int 1))), sasg (gsub (mv 0) (mc (.int 1))) (mbin .add (mv 3) (mc (.int 1))), sif (mcmpT .lt (mv 3) (mblt .len [(midx (mv 0) (mc (.int 0)))])) (sseqs [sasg (gnm 2) (mblt .abs [(mblt .int [(midx (midx (mv 0) (mc (.int 0))) (mv 3))])])]) (sseqs [sasg (gsub (mv 0) (mc (.int 3))) (mbin .mod (mblt .int [(mbin .add (mbin .add (mbin .mul (midx (mv 0) (mc (.int 3))) (mc (.int 48271))) (mv 3)) (mc (.int 1)))]) (mc (.int 2147483647))), sasg (gnm 2) (midx (mv 0) (mc (.int 3)))]), sif (mcmpT .lt (mv 2) (mbin .pow (mc (.int 10)) (mc (.int 18)))) (sseqs [sasg (gnm 2) (mbin .mod (mblt .int [(mbin .add (mbin .add (mbin .mul (mv 2) (mc (.int 48271))) (mbin .mul (mv 3) (mc (.int 69621)))) (mc (.int 5)))]) (mc (.int 2147483647))), sret (mbin .mod (mblt .int [(mbin .mod (mblt .int [(mbin .mul (mv 2) (mc (.int 69621)))]) (mc (.int 2147483629)))]) (mblt .max2 [(mv 1), (mc (.int 1))]))]) (sseqs []), sasg (gsub (mv 0) (mc (.int 2))) (mv 2)]) (sseqs []),
    sasg (gnm 2) (midx (mv 0) (mc (.int 2))),
    sasg (gsub (mv 0) (mc (.int 2))) (mbin .fdiv (mv 2) (mblt .max2 [(mv 1), (mc (.int 2))])),
    sret (mbin .mod (mblt .int [(mv 2)]) (mblt .max2 [(mv 1), (mc (.int 1))]))]
section
variable {S : List Int} {T : Tp} {g : Hh} {Q : D → Hh → Prop} {ρ : Ev}
theorem hp_app (l : Hh) : hp S T g ++ l = hp S T (g ++ l) := rfl
@[simp] theorem hp_len : (hp S T g).length = g.length + 3 := rfl
@[simp] theorem hp_seq1 : seqAt (hp S T g) 1 = some (izs S) := rfl
@[simp] theorem hp_seq2 : seqAt (hp S T g) 2 = some [.ref 1, .p (.int T.pos), .p (.int T.num), .p (.int T.mix)] := rfl
@[simp] theorem hp_lst2 : lstAt (hp S T g) 2 = some [.ref 1, .p (.int T.pos), .p (.int T.num), .p (.int T.mix)] := rfl
@[simp] theorem hp_take0 : (hp S T g).take (g.length + 3) = hp S T g := List.take_of_length_le (by simp)
@[simp] theorem hp_take {l : Hh} : (hp S T (g ++ l)).take (g.length + 3) = hp S T g := by
  show List.take (g.length + 3) (hp S T g ++ l) = _
  exact List.take_left' rfl
theorem set1 {i : Int} : (hp S T g).set 2 (.lst [.ref 1, .p (.int i), .p (.int T.num), .p (.int T.mix)]) = hp S { T with pos := i } g := rfl
theorem set2 {i : Int} : (hp S T g).set 2 (.lst [.ref 1, .p (.int T.pos), .p (.int i), .p (.int T.mix)]) = hp S { T with num := i } g := rfl
theorem set3 {i : Int} : (hp S T g).set 2 (.lst [.ref 1, .p (.int T.pos), .p (.int T.num), .p (.int i)]) = hp S { T with mix := i } g := rfl
theorem setD1 {i : Int} : setD (.ref 2) (.p (.int 1)) (.p (.int i)) (hp S T g) = .ok () (hp S { T with pos := i } g) := rfl
theorem setD2 {i : Int} : setD (.ref 2) (.p (.int 2)) (.p (.int i)) (hp S T g) = .ok () (hp S { T with num := i } g) := rfl
theorem setD3 {i : Int} : setD (.ref 2) (.p (.int 3)) (.p (.int i)) (hp S T g) = .ok () (hp S { T with mix := i } g) := rfl
theorem idx0 : idxD (.ref 2) (.p (.int 0)) (hp S T g) = .ok (.ref 1) (hp S T g) := rfl
theorem idx1 : idxD (.ref 2) (.p (.int 1)) (hp S T g) = .ok (.p (.int T.pos)) (hp S T g) := rfl
theorem idx2 : idxD (.ref 2) (.p (.int 2)) (hp S T g) = .ok (.p (.int T.num)) (hp S T g) := rfl
theorem idx3 : idxD (.ref 2) (.p (.int 3)) (hp S T g) = .ok (.p (.int T.mix)) (hp S T g) := rfl
theorem idx_s {i : Int} (h0 : 0 ≤ i) (h1 : i < S.length) : idxD (.ref 1) (.p (.int i)) (hp S T g) = .ok (.p (.int (S.getD i.toNat 0))) (hp S T g) := by
  unfold idxD
  have : (seqAt (hp S T g) 1).bind (fun xs => atI xs i) = some (.p (.int (S.getD i.toNat 0))) := by
    rw [hp_seq1]
    show atI (izs S) i = _
    have hl : (izs S).length = S.length := by unfold izs; rw [List.length_map]
    unfold atI ixN
    rw [if_pos h0, if_pos (by omega)]
    show (izs S)[i.toNat]? = _
    unfold izs
    rw [List.getElem?_map, List.getD_eq_getElem?_getD]
    cases e : S[i.toNat]? with
    | none =>
      have := List.getElem?_eq_none_iff.mp e
      omega
    | some x => rfl
  simp only [this]
theorem len_s : lenD (.ref 1) (hp S T g) = .ok (.p (.int S.length)) (hp S T g) := by
  unfold lenD
  simp only [hp_seq1]
  unfold izs okP
  rw [List.length_map]
/-- at a tape: a number below many, the tape moved on -/
theorem draw_sat {many : Int} (hT : 0 ≤ T.pos) (hm : many < 1000000000) (k : ∀ r T', 0 ≤ r → r < max many 1 → 0 ≤ T'.pos → Q (.p (.int r)) (hp S T' g)) :
    (fnG 2 4 cDraw [.ref 2, .p (.int many)] (hp S T g)).sat Q := by
  have m1 : (if 1 > many then 1 else many) = max many 1 := by omega
  have m2 : (if 2 > many then 2 else many) = max many 2 := by omega
  have fin : ∀ (x a b c : Int), 0 ≤ a → Q (.p (.int (x.fmod (max many 1)))) (hp S ⟨a, b, c⟩ g) := fun x a b c h0 => k _ ⟨a, b, c⟩ (Int.fmod_nonneg_of_pos _ (by omega)) (Int.fmod_lt_of_pos _ (by omega)) h0
  have n1 : ¬ max many 1 = 0 := by omega
  have n2 : ¬ max many 2 = 0 := by omega
  have n3 : (max many 2).natAbs < 1073741824 := by omega
  have p1 : 0 ≤ T.pos + 1 := by omega
  unfold fnG cDraw
  simp only [startE, List.length_cons, List.length_nil, if_true]
  simp [idx0, idx1, idx2, idx3, setD1, setD2, setD3, P.eqv, o_lenl (hp_seq1 (S := S)), m1, m2, inW]
  split
  · split
    · rename_i h0 h1
      simp [idx_s (T := { pos := T.pos + 1, num := T.num, mix := T.mix }) hT h1, idx2, setD2, inW, n1, n2, n3]
      split <;> split <;> exact fin _ _ _ _ p1
    · split
      · exact ⟨n1, fin _ _ _ _ p1⟩
      · exact ⟨⟨n2, n3⟩, n1, fin _ _ _ _ p1⟩
  · exact ⟨⟨n2, n3⟩, n1, fin _ _ _ _ hT⟩
theorem gcv_below {n : Nat} {d : D} {h : Hh} (hd : d.below n = true) : gcv n d h = .ok d (h.take n) := by
  unfold gcv
  rw [if_pos hd]
theorem hp_seq {T' : Tp} {m : Nat} {ds : List D} (hm : m ≠ 2) (e : seqAt (hp S T g) m = some ds) : seqAt (hp S T' g) m = some ds := by
  match m, hm with
  | 0, _ => exact e
  | 1, _ => exact e
  | m + 3, _ => exact e
theorem hp_new (l : Hh) : seqAt (hp S T (g ++ l)) (g.length + 3) = (l[0]?).map Cell.items := by
  show ((hp S T g ++ l)[(hp S T g).length + 0]?).map Cell.items = _
  rw [get_at]
theorem hp_newl (l : Hh) (k : Nat) : (hp S T (g ++ l))[g.length + 3 + k]? = l[k]? := by
  show (hp S T g ++ l)[(hp S T g).length + k]? = _
  rw [get_at]
theorem hp_setl (l : Hh) (k : Nat) (c : Cell) : (hp S T (g ++ l)).set (g.length + 3 + k) c = hp S T (g ++ l.set k c) := by
  show (hp S T g ++ l).set ((hp S T g).length + k) c = _
  rw [set_at]
  rfl
theorem hp_takel (l : Hh) (k : Nat) : (hp S T (g ++ l)).take (g.length + 3 + k) = hp S T (g ++ l.take k) := by
  show (hp S T g ++ l).take ((hp S T g).length + k) = _
  rw [take_at]
  rfl
/-! the promises, as a table of functions keeps them -/
def DrawG (Γ : Fns) (i : Nat) : Prop := ∀ (S : List Int) (T : Tp) (g : Hh) (many : Int) (Q : D → Hh → Prop), 0 ≤ T.pos → many < 1000000000 →
  (∀ r T', 0 ≤ r → r < max many 1 → 0 ≤ T'.pos → Q (.p (.int r)) (hp S T' g)) → (Γ i [.ref 2, .p (.int many)] (hp S T g)).sat Q
def PickG (Γ : Fns) (i : Nat) : Prop := ∀ (S : List Int) (T : Tp) (g : Hh) (m : Nat) (ds : List D) (Q : D → Hh → Prop), 0 ≤ T.pos → seqAt (hp S T g) m = some ds → m ≠ 2 → ds ≠ [] → ds.length < 1000000000 → (∀ d ∈ ds, d.below (g.length + 3) = true) →
  (∀ d T', d ∈ ds → 0 ≤ T'.pos → Q d (hp S T' g)) → (Γ i [.ref 2, .ref m] (hp S T g)).sat Q
/-- law_pick -/
def cPick (d : Nat) (Γ : Fns) : MS := sseqs [
    sret (midx (mv 1) (mcall Γ d [(mv 0), (mblt .len [(mv 1)])]))]
theorem atI_nat {α : Type} {xs : List α} {r : Int} (h0 : 0 ≤ r) (h1 : r < xs.length) : ∃ x, atI xs r = some x ∧ xs[r.toNat]? = some x ∧ x ∈ xs := by
  have hl : r.toNat < xs.length := by omega
  refine ⟨xs[r.toNat], ?_, List.getElem?_eq_getElem hl, List.getElem_mem hl⟩
  unfold atI ixN
  rw [if_pos h0, if_pos h1]
  exact List.getElem?_eq_getElem hl
theorem pick_sat {Γ : Fns} {d : Nat} (hd : DrawG Γ d) : ∀ (S : List Int) (T : Tp) (g : Hh) (m : Nat) (ds : List D) (Q : D → Hh → Prop), 0 ≤ T.pos → seqAt (hp S T g) m = some ds → m ≠ 2 → ds ≠ [] → ds.length < 1000000000 → (∀ d ∈ ds, d.below (g.length + 3) = true) →
    (∀ d T', d ∈ ds → 0 ≤ T'.pos → Q d (hp S T' g)) → (fnG 2 2 (cPick d Γ) [.ref 2, .ref m] (hp S T g)).sat Q := by
  intro S T g m ds Q hT hs hm hne hl hb k
  have hpos : 0 < ds.length := List.length_pos_iff.mpr hne
  unfold fnG cPick
  simp only [startE, List.length_cons, List.length_nil, if_true]
  simp [o_lenl hs]
  refine hd S T g _ _ hT (by omega) fun r T' h0 h1 hT' => ?_
  obtain ⟨x, hx, _, hmem⟩ := atI_nat (xs := ds) h0 (by omega)
  rw [o_idxl (hp_seq hm hs) hx]
  simp [gcv_below (hb x hmem)]
  exact k x T' hmem hT'
/-- law_tape -/
def cTape : MS := sseqs [
    sasg (gnm 1) (mc (.int 7)),
    sfor (mival (mv 0)) (gnm 2) (sseqs [sasg (gnm 1) (mbin .mod (mblt .int [(mbin .add (mbin .mul (mv 1) (mc (.int 31))) (mblt .abs [(mblt .int [(mv 2)])]))]) (mc (.int 2147483647)))]),
    sret (mlst [(mblt .list [(mv 0)]), (mc (.int 0)), (mc (.int 0)), (mv 1)])]
theorem tape_sat {S : List Int} {Q : D → Hh → Prop} (hS : S.length ≤ 63) (k : ∀ T, 0 ≤ T.pos → Q (.ref 2) (hp S T [])) : (fnG 1 3 cTape [.ref 0] [.rol (izs S)]).sat Q := by
  have hs : ∀ l, seqAt (.rol (izs S) :: l) 0 = some (izs S) := fun _ => rfl
  unfold fnG cTape
  simp only [startE, List.length_cons, List.length_nil, if_true]
  simp [hs]
  refine w_fo (izs S) (fun i ρ h => h = [.rol (izs S)] ∧ ∃ m v, ρ = [some (.ref 0), some (.p (.int m)), v] ∧ ∀ d, v = some d → ∃ x, d = .p x) (by simp [srcRef]) ⟨rfl, 7, none, rfl, by simp⟩ ?_ ?_ ?_
  · rintro i ρ h _ ⟨rfl, _⟩
    simp [srcRef, hs]
  · rintro i x ρ h hx ⟨rfl, m, v, rfl, _⟩
    obtain ⟨n, hn⟩ : ∃ n, x = .p (.int n) := by
      unfold izs at hx
      rw [List.getElem?_map, Option.map_eq_some_iff] at hx
      obtain ⟨n, _, e⟩ := hx
      exact ⟨n, e.symm⟩
    subst hn
    simp [inW]
    exact ⟨_, _, ⟨rfl, rfl⟩, fun d e => ⟨_, (Option.some.inj e).symm⟩⟩
  · rintro ρ h ⟨rfl, m, v, rfl, hv⟩
    have hg : gce 1 [some (.ref 0), some (.p (.int m)), v] [.rol (izs S)] = [.rol (izs S)] := by
      unfold gce
      split <;> rfl
    simp [hg, o_listl (hs []), w_newL, szl]
    refine ⟨by omega, ?_⟩
    exact k ⟨0, 0, m⟩ (Int.le_refl 0)
/-! ### shuffles -/
/-- law_shuffled -/
def cShuf (d : Nat) (Γ : Fns) : MS := sseqs [
    sasg (gnm 2) (mblt .list [(mv 1)]),
    sret (mlc (mirg (mr1 (mblt .len [(mv 1)]))) (gnm 3) myes (mmth .pop1 (mv 2) [(mcall Γ d [(mv 0), (mblt .len [(mv 2)])])]) [3])]
def ShufG (Γ : Fns) (i : Nat) : Prop := ∀ (S : List Int) (T : Tp) (g : Hh) (m : Nat) (ds : List D) (Q : D → Hh → Prop), 0 ≤ T.pos → seqAt (hp S T g) m = some ds → m < g.length + 3 → m ≠ 2 → ds.length ≤ 1000000 → (∀ d ∈ ds, d.below (g.length + 3) = true) →
  (∀ es T', es.Perm ds → 0 ≤ T'.pos → Q (.ref (g.length + 3)) (hp S T' (g ++ [.lst es]))) → (Γ i [.ref 2, .ref m] (hp S T g)).sat Q
theorem perm_erase {α : Type} : ∀ {us : List α} {k : Nat} {y : α}, us[k]? = some y → (y :: us.eraseIdx k).Perm us
  | [], _, _, h => by simp at h
  | u :: us, 0, y, h => by
    simp at h
    subst h
    exact List.Perm.refl _
  | u :: us, k + 1, y, h => by
    simp only [List.getElem?_cons_succ] at h
    exact (List.Perm.swap u y _).trans ((perm_erase h).cons u)
theorem rgOk_of {a b : Int} (h0 : 0 ≤ a) (h1 : b ≤ 1000000) (h2 : a ≤ 1000000) (h3 : 0 ≤ b) : rgOk a b = true := by
  unfold rgOk szl
  simp
  omega
theorem all_below {n : Nat} {ds : List D} (h : ∀ d ∈ ds, d.below n = true) : Cell.below n (.lst ds) = true := List.all_eq_true.mpr h
theorem shuf_sat {Γ : Fns} {d : Nat} (hd : DrawG Γ d) : ∀ (S : List Int) (T : Tp) (g : Hh) (m : Nat) (ds : List D) (Q : D → Hh → Prop), 0 ≤ T.pos → seqAt (hp S T g) m = some ds → m < g.length + 3 → m ≠ 2 → ds.length ≤ 1000000 → (∀ d ∈ ds, d.below (g.length + 3) = true) →
    (∀ es T', es.Perm ds → 0 ≤ T'.pos → Q (.ref (g.length + 3)) (hp S T' (g ++ [.lst es]))) → (fnG 2 4 (cShuf d Γ) [.ref 2, .ref m] (hp S T g)).sat Q := by
  intro S T g m ds Q hT hs hml hm hl hb k
  have hmg : seqAt (hp S T (g ++ [.lst ds])) m = some ds := by
    have e : (hp S T (g ++ [.lst ds])) = hp S T g ++ [.lst ds] := rfl
    rw [e]
    unfold seqAt
    rw [List.getElem?_append_left (by rw [hp_len]; exact hml)]
    exact hs
  unfold fnG cShuf
  simp only [startE, List.length_cons, List.length_nil, if_true]
  have g1 : gcv (g.length + 3) (.ref (g.length + 3)) (hp S T g ++ [.lst ds]) = .ok (.ref (g.length + 3)) (hp S T g ++ [.lst ds]) := gcv_new (h := hp S T g) (l := [.lst ds]) (k := 0) rfl (all_below hb)
  simp [o_listl hs, w_newL, szl, g1]
  refine ⟨by omega, ?_⟩
  simp [hp_app, o_lenl hmg, rgOk_of (Int.le_refl 0) (show (ds.length : Int) ≤ 1000000 by omega) (by omega) (by omega), wipe, srcR]
  refine w_lcg (s := ⟨ds.length, _⟩) (rgL 0 ds.length) (fun i acc h => ∃ T' us, h = hp S T' (g ++ [.lst us]) ∧ 0 ≤ T'.pos ∧ (acc ++ us).Perm ds ∧ acc.length = i) (by simp [rgL]) ⟨T, ds, rfl, hT, by simp, rfl⟩ ?_ ?_ ?_
  · rintro i acc h hi _
    simp [rgL]
    by_cases hlt : i < ds.length
    · simp [hlt]
    · simp [hlt]
  · rintro i x acc h hx ⟨T', us, rfl, hT', hp', hacc⟩
    have hx' : i < ds.length ∧ x = .p (.int i) := by
      simp [rgL] at hx
      obtain ⟨j, h1, h2⟩ := hx
      obtain ⟨h3, h4⟩ := List.getElem?_eq_some_iff.mp h1
      simp at h3 h4
      subst h4
      exact ⟨h3, h2.symm⟩
    obtain ⟨hi, rfl⟩ := hx'
    have hus : us.length = ds.length - i := by
      have := hp'.length_eq
      rw [List.length_append] at this
      omega
    have hu : ∀ u ∈ us, u.below (g.length + 3) = true := fun u hu => hb u (hp'.mem_iff.mp (List.mem_append_right _ hu))
    have hq : seqAt (hp S T' (g ++ [.lst us])) (g.length + 3) = some us := by rw [hp_new]; rfl
    simp [myes, o_lenl hq]
    refine hd S T' _ _ _ hT' (by omega) fun r T2 h0 h1 h2 => ?_
    obtain ⟨y, _, hy, hmem⟩ := atI_nat (xs := us) h0 (by omega)
    have hq2 : lstAt (hp S T2 (g ++ [.lst us])) (g.length + 3) = some us := by
      unfold lstAt
      have := hp_newl (S := S) (T := T2) (g := g) [.lst us] 0
      rw [Nat.add_zero] at this
      rw [this]
      rfl
    rw [o_pop1 hq2 h0 (by omega) hy]
    have e1 : (hp S T2 (g ++ [.lst us])).set (g.length + 3) (.lst (us.eraseIdx r.toNat)) = hp S T2 (g ++ [.lst (us.eraseIdx r.toNat)]) := hp_setl (S := S) (T := T2) (g := g) [.lst us] 0 _
    rw [e1]
    have hb1 : y.below (g.length + 1 + 3) = true := by
      have := hu y hmem
      unfold D.below at this ⊢
      split at this
      · rfl
      · simp at this ⊢; omega
    have hb2 : y.below (g.length + 3) = true := hu y hmem
    rw [gcv_below hb1]
    have e2 : (hp S T2 (g ++ [Cell.lst (us.eraseIdx r.toNat)])).take (g.length + 1 + 3) = hp S T2 (g ++ [Cell.lst (us.eraseIdx r.toNat)]) := List.take_of_length_le (by simp)
    simp only [sat_ok, e2]
    refine ⟨by simp [szl]; omega, T2, us.eraseIdx r.toNat, rfl, h2, ?_, by simp [hacc]⟩
    exact (List.Perm.append_left acc (perm_erase hy)).trans hp'
  · rintro acc h ⟨T', us, rfl, hT', hp', hacc⟩
    have hus : us = [] := by
      have := hp'.length_eq
      rw [List.length_append, hacc] at this
      simp [rgL] at this
      exact this
    subst hus
    rw [List.append_nil] at hp'
    have hac : ∀ d ∈ acc, d.below (g.length + 3) = true := fun u hu => hb u (hp'.mem_iff.mp hu)
    have e1 : ∀ l, hp S T' (g ++ [Cell.lst []]) ++ l = hp S T' (g ++ (.lst [] :: l)) := fun l => by simp [hp_app]
    have g2 : gcv (g.length + 3 + 1) (.ref (g.length + 1 + 3)) (hp S T' (g ++ [.lst []]) ++ [.lst acc]) = .ok (.ref (g.length + 3 + 1)) (hp S T' (g ++ [.lst []]) ++ [.lst acc]) :=
      gcv_newN (h := hp S T' (g ++ [.lst []])) (l := [.lst acc]) (k := 0) (by simp) (by simp) rfl (all_below fun u hu => by
        have := hac u hu
        unfold D.below at this ⊢
        split at this
        · rfl
        · simp at this ⊢; omega)
    have g3 : gcv (g.length + 3) (.ref (g.length + 3 + 1)) (hp S T' (g ++ [.lst []]) ++ [.lst acc]) = .ok (.ref (g.length + 3)) (hp S T' g ++ [.lst acc]) := by
      have e : hp S T' (g ++ [.lst []]) ++ [.lst acc] = hp S T' g ++ [.lst [], .lst acc] := by simp [hp_app]
      rw [e]
      exact gcv_newN (h := hp S T' g) (l := [.lst [], .lst acc]) (k := 1) (by simp) (by simp) rfl (all_below hac)
    simp [g2, g3]
    exact k acc T' hp' hT'
/-- law_turns -/
def cTurns (d s : Nat) (Γ : Fns) : MS := sseqs [
    sasg (gnm 2) (mcall Γ s [(mv 0), (mlrg (mr1 (mv 1)))]),
    sret (mcut (mv 2) mo0 (mo1 (midx (mlst [(mv 1), (mv 1), (mc (.int 1))]) (mcall Γ d [(mv 0), (mc (.int 3))]))))]
theorem turns_sat {Γ : Fns} {d s : Nat} (hd : DrawG Γ d) (hsh : ShufG Γ s) (S : List Int) (T : Tp) (g : Hh) (many : Int) (Q : D → Hh → Prop) (hT : 0 ≤ T.pos) (h0 : 0 ≤ many) (h1 : many ≤ 1000)
    (k : ∀ (es : List D) (T' : Tp), (∀ e ∈ es, ∃ i : Int, e = .p (.int i) ∧ 0 ≤ i ∧ i < many) → es.length ≤ 1000 → 0 ≤ T'.pos → Q (.ref (g.length + 3)) (hp S T' (g ++ [.lst es]))) : (fnG 2 3 (cTurns d s Γ) [.ref 2, .p (.int many)] (hp S T g)).sat Q := by
  unfold fnG cTurns
  simp only [startE, List.length_cons, List.length_nil, if_true]
  simp [rgOk_of (Int.le_refl 0) (show many ≤ 1000000 by omega) (by omega) h0, w_newL]
  refine ⟨by simp [rgL, szl]; omega, ?_⟩
  have hq : seqAt (hp S T g ++ [.lst (rgL 0 many)]) (g.length + 3) = some (rgL 0 many) := by rw [hp_app, hp_new]; rfl
  have hmem : ∀ e ∈ rgL 0 many, ∃ i : Int, e = .p (.int i) ∧ 0 ≤ i ∧ i < many := fun e he => by
    simp [rgL] at he
    obtain ⟨i, hi, rfl⟩ := he
    exact ⟨i, rfl, by omega, by omega⟩
  rw [hp_app] at hq ⊢
  refine hsh S T _ _ _ _ hT hq (by simp) (by omega) (by simp [rgL]; omega) (fun e he => by obtain ⟨i, rfl, _⟩ := hmem e he; rfl) fun es T' hp' hT' => ?_
  have hes : ∀ e ∈ es, ∃ i : Int, e = .p (.int i) ∧ 0 ≤ i ∧ i < many := fun e he => hmem e (hp'.mem_iff.mp he)
  have hel : es.length ≤ 1000 := by rw [hp'.length_eq]; simp [rgL]; omega
  have bl : ∀ n, ∀ e ∈ es, D.below n e = true := fun n e he => by obtain ⟨i, rfl, _⟩ := hes e he; rfl
  have g1 : gcv (g.length + 3) (.ref (g.length + 1 + 3)) (hp S T' (g ++ [.lst (rgL 0 many), .lst es])) = .ok (.ref (g.length + 3)) (hp S T' (g ++ [.lst es])) := by
    have e : hp S T' (g ++ [.lst (rgL 0 many), .lst es]) = hp S T' g ++ [.lst (rgL 0 many), .lst es] := rfl
    rw [e]
    exact gcv_newN (h := hp S T' g) (k := 1) (by simp) (by simp) rfl (all_below (bl _))
  simp [g1, hp_app]
  refine ⟨by decide, hd S T' _ _ _ hT' (by omega) fun r T2 r0 r1 hT2 => ?_⟩
  have r2 : r < 3 := by omega
  have fin : ∀ i : Int, (cutD (.ref (g.length + 3)) none (some i) (hp S T2 (g ++ [.lst es, .lst [.p (.int many), .p (.int many), .p (.int 1)]]))).sat fun d h' => (gcv (g.length + 1 + 3) d h').sat fun d h => (gcv (g.length + 3) d h).sat Q := by
    intro i
    have hs1 : seqAt (hp S T2 (g ++ [.lst es, .lst [.p (.int many), .p (.int many), .p (.int 1)]])) (g.length + 3) = some es := by rw [hp_new]; rfl
    have hsub : ∀ e ∈ cut es none (some i), e ∈ es := fun e he => by
      unfold cut at he
      exact List.mem_of_mem_drop (List.mem_of_mem_take he)
    have hcl : (cut es none (some i)).length ≤ es.length := by
      unfold cut
      rw [List.length_take, List.length_drop]
      omega
    rw [o_cutl hs1, w_newL]
    refine ⟨by unfold szl; omega, ?_⟩
    have e2 : gcv (g.length + 1 + 3) (.ref (hp S T2 (g ++ [.lst es, .lst [.p (.int many), .p (.int many), .p (.int 1)]])).length) (hp S T2 (g ++ [.lst es, .lst [.p (.int many), .p (.int many), .p (.int 1)]]) ++ [.lst (cut es none (some i))]) = .ok (.ref (g.length + 1 + 3)) (hp S T2 (g ++ [.lst es]) ++ [.lst (cut es none (some i))]) := by
      have e : hp S T2 (g ++ [.lst es, .lst [.p (.int many), .p (.int many), .p (.int 1)]]) ++ [.lst (cut es none (some i))] = hp S T2 (g ++ [.lst es]) ++ [.lst [.p (.int many), .p (.int many), .p (.int 1)], .lst (cut es none (some i))] := by simp [hp_app]
      rw [e]
      exact gcv_newN (n := g.length + 1 + 3) (m := (hp S T2 (g ++ [.lst es, .lst [.p (.int many), .p (.int many), .p (.int 1)]])).length) (h := hp S T2 (g ++ [.lst es])) (l := [.lst [.p (.int many), .p (.int many), .p (.int 1)], .lst (cut es none (some i))]) (k := 1) (by simp) (by simp) rfl (all_below fun e he => bl _ e (hsub e he))
    have e3 : gcv (g.length + 3) (.ref (g.length + 1 + 3)) (hp S T2 (g ++ [.lst es]) ++ [.lst (cut es none (some i))]) = .ok (.ref (g.length + 3)) (hp S T2 g ++ [.lst (cut es none (some i))]) := by
      have e : hp S T2 (g ++ [.lst es]) ++ [.lst (cut es none (some i))] = hp S T2 g ++ [.lst es, .lst (cut es none (some i))] := by simp [hp_app]
      rw [e]
      exact gcv_newN (h := hp S T2 g) (k := 1) (by simp) (by simp) rfl (all_below fun e he => bl _ e (hsub e he))
    rw [e2, sat_ok, e3, sat_ok]
    exact k _ T2 (fun e he => hes e (hsub e he)) (by omega) hT2
  have hmenu : seqAt (hp S T2 (g ++ [.lst es, .lst [.p (.int many), .p (.int many), .p (.int 1)]])) (g.length + 1 + 3) = some [.p (.int many), .p (.int many), .p (.int 1)] := by
    have := hp_newl (S := S) (T := T2) (g := g) [.lst es, .lst [.p (.int many), .p (.int many), .p (.int 1)]] 1
    unfold seqAt
    rw [show g.length + 1 + 3 = g.length + 3 + 1 by omega, this]
    rfl
  have r3 : r = 0 ∨ r = 1 ∨ r = 2 := by omega
  rcases r3 with rfl | rfl | rfl
  · rw [o_idxl hmenu (x := .p (.int many)) rfl]; exact fin many
  · rw [o_idxl hmenu (x := .p (.int many)) rfl]; exact fin many
  · rw [o_idxl hmenu (x := .p (.int 1)) rfl]; exact fin 1
/-! ### the law's own comparison -/
/-- law_same -/
def cSame (i : Nat) (Γ : Fns) : MS := sseqs [
    sif (mtru (misi .tuple (mv 1))) (sseqs [sret (mand (misi .tuple (mv 0)) (mand (mB (mcmpT .eq (mblt .len [(mv 0)]) (mblt .len [(mv 1)]))) (mB (mcmpT .notin (mc (.bl false)) (mlc (mirg (mr1 (mblt .len [(mv 1)]))) (gnm 2) myes (mcall Γ i [(midx (mv 0) (mv 2)), (midx (mv 1) (mv 2))]) [2])))))]) (sseqs []),
    sif (morT (misnT false (mv 1)) (misnT false (mv 0))) (sseqs [sret (mand (mB (misnT false (mv 1))) (mB (misnT false (mv 0))))]) (sseqs []),
    sif (mtru (misi .str (mv 1))) (sseqs [sret (mand (misi .str (mv 0)) (mB (mcmpT .eq (mv 0) (mv 1))))]) (sseqs []),
    sret (mand (mB (mcmpT .eq (misi .bool (mv 0)) (misi .bool (mv 1)))) (mand (misi .int (mv 0)) (mB (mcmpT .eq (mv 0) (mv 1)))))]
mutual
/-- data of at most that depth, its rows not too long -/
def P.fit : Nat → P → Bool
  | 0, .tup _ => false
  | n + 1, .tup xs => decide (xs.length ≤ 1000000) && P.fitL n xs
  | _, .non => true | _, .bl _ => true | _, .int _ => true | _, .str _ => true
def P.fitL : Nat → List P → Bool
  | _, [] => true
  | n, x :: xs => P.fit n x && P.fitL n xs
end
theorem fitL_mem {n : Nat} : ∀ {xs : List P}, P.fitL n xs = true → ∀ x ∈ xs, P.fit n x = true
  | [], _, x, hx => by cases hx
  | y :: ys, h, x, hx => by
    simp only [P.fitL, Bool.and_eq_true] at h
    rcases List.mem_cons.mp hx with e | e
    · rw [e]; exact h.1
    · exact fitL_mem h.2 x e
mutual
theorem eqv_refl : ∀ x : P, x.eqv x = true
  | .non => by simp only [P.eqv]
  | .bl b => by simp [P.eqv]
  | .int i => by simp [P.eqv]
  | .str s => by simp [P.eqv]
  | .tup xs => by simp only [P.eqv]; exact eqvL_refl xs
theorem eqvL_refl : ∀ xs : List P, P.eqvL xs xs = true
  | [] => by simp only [P.eqvL]
  | x :: xs => by simp only [P.eqvL, eqv_refl x, eqvL_refl xs, Bool.and_self]
end

def notT : P → Bool
  | .tup _ => false
  | _ => true
/-- what is told of equal data, one by one -/
def SameG (Γ : Fns) (i n : Nat) : Prop := ∀ (x : P) (h : Hh) (Q : D → Hh → Prop), P.fit n x = true → Q (.p (.bl true)) h → (Γ i [.p x, .p x] h).sat Q
theorem depthL_bl : ∀ n : Nat, P.depthL (List.replicate n (.bl true)) = 0
  | 0 => by simp only [List.replicate, P.depthL]
  | n + 1 => by simp only [List.replicate, P.depthL, P.depth, depthL_bl n]; rfl
theorem any_bl : ∀ n : Nat, (List.replicate n (P.bl true)).any (fun z => z.eqv (.bl false)) = false
  | 0 => rfl
  | n + 1 => by rw [List.replicate_succ, List.any_cons, any_bl n]; simp [P.eqv]
theorem pures_rep : ∀ n : Nat, pures (List.replicate n (.p (.bl true))) = some (List.replicate n (.bl true))
  | 0 => rfl
  | n + 1 => by rw [List.replicate_succ, List.replicate_succ]; simp only [pures, pures_rep n, Option.map_some]
theorem same_flat {Γ : Fns} {i : Nat} {x : P} {h : Hh} {Q : D → Hh → Prop} (f : notT x = true) (k : Q (.p (.bl true)) h) : (fnG 2 3 (cSame i Γ) [.p x, .p x] h).sat Q := by
  unfold fnG cSame
  simp only [startE, List.length_cons, List.length_nil, if_true]
  cases x with
  | tup xs => exact absurd f Bool.false_ne_true
  | non => simp [isTy, isNone]; exact k
  | bl b => simp [isTy, isNone, P.eqv]; exact k
  | int j => simp [isTy, isNone, P.eqv]; exact k
  | str s => simp [isTy, isNone, P.eqv]; exact k
theorem same_sat {Γ : Fns} {i n : Nat} (S : SameG Γ i n) {x : P} {h : Hh} {Q : D → Hh → Prop} (f : P.fit (n + 1) x = true) (k : Q (.p (.bl true)) h) : (fnG 2 3 (cSame i Γ) [.p x, .p x] h).sat Q := by
  cases x with
  | non => exact same_flat rfl k
  | bl b => exact same_flat rfl k
  | int j => exact same_flat rfl k
  | str s => exact same_flat rfl k
  | tup xs =>
    simp only [P.fit, Bool.and_eq_true, decide_eq_true_eq] at f
    obtain ⟨hl, hf⟩ := f
    unfold fnG cSame
    simp only [startE, List.length_cons, List.length_nil, if_true]
    simp [isTy, P.eqv, rgOk_of (Int.le_refl 0) (show (xs.length : Int) ≤ 1000000 by omega) (by omega) (by omega), wipe, srcR]
    refine w_lcg (s := ⟨xs.length, _⟩) (rgL 0 xs.length) (fun j acc h' => h' = h ∧ acc = List.replicate j (.p (.bl true))) (by simp [rgL]) ⟨rfl, rfl⟩ ?_ ?_ ?_
    · rintro j acc h' hj _
      simp [rgL]
      by_cases hlt : j < xs.length
      · simp [hlt]
      · simp [hlt]
    · rintro j x acc h' hx ⟨rfl, rfl⟩
      have hx' : j < xs.length ∧ x = .p (.int j) := by
        simp [rgL] at hx
        obtain ⟨j, h1, h2⟩ := hx
        obtain ⟨h3, h4⟩ := List.getElem?_eq_some_iff.mp h1
        simp at h3 h4
        subst h4
        exact ⟨h3, h2.symm⟩
      obtain ⟨hj, rfl⟩ := hx'
      obtain ⟨y, hy, _, hmem⟩ := atI_nat (xs := xs) (r := (j : Int)) (by omega) (by omega)
      simp [myes, o_idxt hy]
      refine S y h' _ (fitL_mem hf y hmem) ?_
      simp [szl]
      refine ⟨by omega, ?_⟩
      rw [← List.replicate_succ']
    · rintro acc h' ⟨rfl, rfl⟩
      have hr : (rgL 0 (xs.length : Int)).length = xs.length := by simp [rgL]
      rw [hr]
      have hs : (seqAt (h' ++ [.lst (List.replicate xs.length (.p (.bl true)))]) h'.length).bind pures = some (List.replicate xs.length (.bl true)) := by
        have := get_at h' [.lst (List.replicate xs.length (.p (.bl true)))] 0
        unfold seqAt
        rw [Nat.add_zero] at this
        rw [this]
        simp [Cell.items, pures_rep]
      rw [o_ninl hs, any_bl]
      refine ⟨by simp [shaped, P.depth, depthL_bl], ?_⟩
      simp
      exact k
theorem rg_item {a b : Int} {i : Nat} {x : D} (hx : (rgL a b)[i]? = some x) : i < (b - a).toNat ∧ x = .p (.int (a + i)) := by
  simp [rgL] at hx
  obtain ⟨j, h1, h2⟩ := hx
  obtain ⟨h3, h4⟩ := List.getElem?_eq_some_iff.mp h1
  simp at h3 h4
  subst h4
  exact ⟨by omega, h2.symm⟩
theorem rg_len (a b : Int) : (rgL a b).length = (b - a).toNat := by simp [rgL]
theorem rg_get (a b : Int) (i : Nat) (h : Hh) : (srcR a b).get i h = some (rgL a b)[i]? := by
  show some (if i < (b - a).toNat then some (D.p (.int (a + i))) else none) = _
  congr 1
  split
  · rename_i hl
    rw [rgL, List.getElem?_map, List.getElem?_eq_getElem (by simpa using hl)]
    simp
  · rename_i hl
    rw [List.getElem?_eq_none (by rw [rg_len]; omega)]
theorem atI_last {α : Type} (xs : List α) (x : α) : atI (xs ++ [x]) (-1) = some x := by
  unfold atI ixN
  rw [if_neg (by omega), if_pos (by simp; omega)]
  have e : (-1 + ((xs ++ [x]).length : Int)).toNat = xs.length := by simp; omega
  show (xs ++ [x])[(-1 + ((xs ++ [x]).length : Int)).toNat]? = some x
  rw [e]
  simp
theorem ixN_last {α : Type} (xs : List α) (x : α) : ixN (xs ++ [x]).length (-1) = some xs.length := by
  unfold ixN
  rw [if_neg (by omega), if_pos (by simp; omega)]
  simp
  omega
end
theorem sIx_some (n d : Nat) {v : Int} (h : 0 ≤ v) : sIx n d (some v) = min v.toNat n := if_neg (by omega)
theorem cut_take {α : Type} (xs : List α) (p : Int) (h0 : 0 ≤ p) (h1 : p ≤ xs.length) : cut xs none (some p) = xs.take p.toNat := by
  unfold cut
  rw [sIx_some _ _ h0, show min p.toNat xs.length = p.toNat by omega]
  rfl
theorem cut_drop {α : Type} (xs : List α) (p : Int) (h0 : 0 ≤ p) (h1 : p ≤ xs.length) : cut xs (some p) none = xs.drop p.toNat := by
  unfold cut
  rw [sIx_some _ _ h0, show min p.toNat xs.length = p.toNat by omega]
  exact List.take_of_length_le (by simp [sIx])
theorem cut_mid {α : Type} (xs : List α) (p q : Int) (h0 : 0 ≤ p) (h1 : p ≤ q) (h2 : q ≤ xs.length) : cut xs (some p) (some q) = (xs.drop p.toNat).take (q.toNat - p.toNat) := by
  unfold cut
  rw [sIx_some _ _ h0, sIx_some _ _ (by omega), show min p.toNat xs.length = p.toNat by omega, show min q.toNat xs.length = q.toNat by omega]
theorem seq_lt {h : Hh} {m : Nat} {ds : List D} (e : seqAt h m = some ds) : m < h.length := by
  unfold seqAt at e
  cases q : h[m]? with
  | none => rw [q] at e; cases e
  | some c => exact (List.getElem?_eq_some_iff.mp q).1
theorem seq_app {h : Hh} {m : Nat} {ds : List D} (e : seqAt h m = some ds) (l : Hh) : seqAt (h ++ l) m = some ds := by
  have := seq_lt e
  unfold seqAt at e ⊢
  rw [List.getElem?_append_left this]
  exact e
section
variable {S : List Int} {T : Tp} {g : Hh}
theorem hp_lk {l : Hh} {k : Nat} {c : Cell} (hk : l[k]? = some c) : (hp S T (g ++ l))[g.length + k + 3]? = some c := by
  rw [show g.length + k + 3 = g.length + 3 + k by omega, hp_newl, hk]
theorem hp_seqk {l : Hh} {k : Nat} {c : Cell} (hk : l[k]? = some c) : seqAt (hp S T (g ++ l)) (g.length + k + 3) = some c.items := by
  unfold seqAt
  rw [hp_lk hk]; rfl
theorem hp_lstk {l : Hh} {k : Nat} {xs : List D} (hk : l[k]? = some (.lst xs)) : lstAt (hp S T (g ++ l)) (g.length + k + 3) = some xs := by
  unfold lstAt
  rw [hp_lk hk]
theorem hp_len2 (l : Hh) : (hp S T (g ++ l)).length = g.length + l.length + 3 := by rw [hp_len, List.length_append]
theorem hp_takek (l : Hh) (k : Nat) : (hp S T (g ++ l)).take (g.length + k + 3) = hp S T (g ++ l.take k) := by
  rw [show g.length + k + 3 = g.length + 3 + k by omega, hp_takel]
/-- a new list, the only thing kept -/
theorem hp_gcv {l : Hh} {k : Nat} {c : Cell} {m : Nat} (hm : m = g.length + k + 3) (hk : l[k]? = some c) (hc : c.below (g.length + 3) = true) : gcv (g.length + 3) (.ref m) (hp S T (g ++ l)) = .ok (.ref (g.length + 3)) (hp S T (g ++ [c])) := by
  have e : hp S T (g ++ l) = hp S T g ++ l := rfl
  rw [e]
  exact gcv_newN (h := hp S T g) (k := k) (by simp) (by simp; omega) hk hc
theorem idx_l {h : Hh} {n : Nat} {xs : List D} {i : Int} {x : D} (hn : seqAt h n = some xs) (e : atI xs i = some x) : idxD (.ref n) (.p (.int i)) h = .ok x h := by
  unfold idxD
  simp only [hn, Option.bind_some, e]
@[simp] theorem hp_take1 {c : Cell} {l : Hh} : (hp S T (g ++ c :: l)).take (g.length + 1 + 3) = hp S T (g ++ [c]) := hp_takek (c :: l) 1
theorem below_lt {n m : Nat} (h : m < n) : D.below n (.ref m) = true := by unfold D.below; exact decide_eq_true h
theorem hp_seq0 {c : Cell} {l : Hh} : seqAt (hp S T (g ++ c :: l)) (g.length + 3) = some c.items := hp_seqk (l := c :: l) (k := 0) rfl
theorem hp_seq01 {c c' : Cell} {l : Hh} : seqAt (hp S T (g ++ c :: c' :: l)) (g.length + 1 + 3) = some c'.items := hp_seqk (l := c :: c' :: l) (k := 1) rfl
theorem hp_seq02 {c c' d : Cell} {l : Hh} : seqAt (hp S T (g ++ c :: c' :: d :: l)) (g.length + 2 + 3) = some d.items := hp_seqk (l := c :: c' :: d :: l) (k := 2) rfl
theorem hp_seq03 {c c' d e : Cell} {l : Hh} : seqAt (hp S T (g ++ c :: c' :: d :: e :: l)) (g.length + 3 + 3) = some e.items := hp_seqk (l := c :: c' :: d :: e :: l) (k := 3) rfl
/-- the new list of those that came, its place -/
theorem hp_gcv1 {c c' : Cell} {l : Hh} {m : Nat} (hm : m = g.length + 1 + 3) (hc : c'.below (g.length + 3) = true) : gcv (g.length + 3) (.ref m) (hp S T (g ++ c :: c' :: l)) = .ok (.ref (g.length + 3)) (hp S T (g ++ [c'])) := hp_gcv (k := 1) hm rfl hc
theorem hp_gcv0 {c : Cell} {l : Hh} (hc : c.below (g.length + 3) = true) : gcv (g.length + 3) (.ref (g.length + 3)) (hp S T (g ++ c :: l)) = .ok (.ref (g.length + 3)) (hp S T (g ++ [c])) := hp_gcv (k := 0) rfl rfl hc
theorem hp_gcvB {l1 l : Hh} {k m n : Nat} {c : Cell} (hn : n = g.length + l1.length + 3) (hm : m = n + k) (hk : l[k]? = some c) (hc : c.below n = true) : gcv n (.ref m) (hp S T (g ++ (l1 ++ l))) = .ok (.ref n) (hp S T (g ++ (l1 ++ [c]))) := by
  subst hn
  have e := hp_gcv (S := S) (T := T) (g := g ++ l1) (l := l) (k := k) (c := c) (m := m) (by simp; omega) hk (by rw [show (g ++ l1).length + 3 = g.length + l1.length + 3 by simp]; exact hc)
  simpa using e
theorem hp_two {c c' : Cell} (hc : c'.below (g.length + 1 + 3) = true) : gcv (g.length + 1 + 3) (.ref (g.length + 1 + 3)) (hp S T (g ++ [c, c'])) = .ok (.ref (g.length + 1 + 3)) (hp S T (g ++ [c, c'])) := hp_gcvB (l1 := [c]) (l := [c']) (k := 0) rfl rfl rfl hc
theorem hp_set0 {xs : List D} {l : Hh} {i : Int} {j : Nat} {d : D} (hj : ixN xs.length i = some j) (hd : d.below (g.length + 3) = true) : setD (.ref (g.length + 3)) (.p (.int i)) d (hp S T (g ++ .lst xs :: l)) = .ok () (hp S T (g ++ .lst (xs.set j d) :: l)) := by
  have e : lstAt (hp S T (g ++ .lst xs :: l)) (g.length + 3) = some xs := hp_lstk (l := .lst xs :: l) (k := 0) rfl
  unfold setD
  simp only [e, hj, hd, if_true]
  have := hp_setl (S := S) (T := T) (g := g) (.lst xs :: l) 0 (.lst (xs.set j d))
  exact congrArg _ this
theorem hp_takeG {l : Hh} {n : Nat} (hn : g.length + 3 ≤ n) : ∃ l', (hp S T (g ++ l)).take n = hp S T (g ++ l') := by
  obtain ⟨k, rfl⟩ : ∃ k, n = g.length + k + 3 := ⟨n - g.length - 3, by omega⟩
  exact ⟨_, hp_takek l k⟩
theorem gce_ex {l : Hh} {n : Nat} {ρ : Ev} (hn : g.length + 3 ≤ n) : ∃ l', gce n ρ (hp S T (g ++ l)) = hp S T (g ++ l') := by
  unfold gce
  split
  · exact hp_takeG hn
  · exact ⟨l, rfl⟩
theorem gcv_keep {h : Hh} {n m : Nat} {c : Cell} (hm : n ≤ m) (hc : h[m]? = some c) (hb : c.below n = false) : gcv n (.ref m) h = .ok (.ref m) h := by
  unfold gcv
  have : D.below n (.ref m) = false := decide_eq_false (by omega)
  rw [this]
  simp only [Bool.false_eq_true, if_false, hc, hb]
/-- a pick out of a new list of numbers -/
theorem pickI {Γ : Fns} {i : Nat} (hP : PickG Γ i) {Q : D → Hh → Prop} {l : Hh} {k m : Nat} {xs : List Int} (hT : 0 ≤ T.pos) (hm : m = g.length + k + 3) (hk : l[k]? = some (.lst (izs xs))) (hne : xs ≠ []) (hl : xs.length < 1000000000)
    (q : ∀ x T', x ∈ xs → 0 ≤ T'.pos → Q (.p (.int x)) (hp S T' (g ++ l))) : (Γ i [.ref 2, .ref m] (hp S T (g ++ l))).sat Q := by
  subst hm
  refine hP S T _ _ (izs xs) _ hT (hp_seqk hk) (by omega) (by unfold izs; simpa using hne) (by simpa using hl) ?_ ?_
  · intro d hd
    unfold izs at hd
    obtain ⟨x, _, rfl⟩ := List.mem_map.mp hd
    rfl
  · intro d T' hd hT'
    unfold izs at hd
    obtain ⟨x, hx, rfl⟩ := List.mem_map.mp hd
    exact q x T' hx hT'
end
/-- a row of numbers, as data -/
def ip (xs : List Int) : List P := xs.map .int
@[simp] theorem ip_len (xs : List Int) : (ip xs).length = xs.length := List.length_map _
theorem fit_ints : ∀ (n : Nat) (xs : List Int), P.fitL n (ip xs) = true
  | _, [] => by simp only [ip, List.map_nil, P.fitL]
  | n, x :: xs => by
    show P.fitL n (.int x :: ip xs) = true
    simp only [P.fitL, fit_ints n xs, Bool.and_true]
    cases n <;> simp only [P.fit]
theorem fit_tup (n : Nat) (xs : List Int) (h : xs.length ≤ 1000000) : P.fit (n + 1) (.tup (ip xs)) = true := by
  simp only [P.fit, fit_ints, Bool.and_true, decide_eq_true_eq, ip_len]
  omega
/-! ### the shared defs, at any level of a table -/
section
variable {G : Nat → Fns}
theorem same_lv {i : Nat} (hG : ∀ k, G (k + 1) i = fnG 2 3 (cSame i (G k))) : ∀ n k, SameG (G (k + n + 1)) i n
  | 0, k => fun x h Q f q => by
    rw [show k + 0 + 1 = k + 1 from rfl, hG]
    refine same_flat (i := i) ?_ q
    cases x <;> first | rfl | (simp only [P.fit] at f; cases f)
  | n + 1, k => fun x h Q f q => by
    rw [show k + (n + 1) + 1 = (k + n + 1) + 1 by omega, hG]
    exact same_sat (same_lv hG n k) f q
theorem draw_lv {d k : Nat} (hG : ∀ k, G (k + 1) d = fnG 2 4 cDraw) : DrawG (G (k + 1)) d := fun S T g many Q h1 h2 h3 => by
  rw [hG]; exact draw_sat h1 h2 h3
theorem pick_lv {d p k : Nat} (hd : DrawG (G k) d) (hG : ∀ k, G (k + 1) p = fnG 2 2 (cPick d (G k))) : PickG (G (k + 1)) p := fun S T g m ds Q h1 h2 h3 h4 h5 h6 h7 => by
  rw [hG]; exact pick_sat hd S T g m ds Q h1 h2 h3 h4 h5 h6 h7
theorem shuf_lv {d s k : Nat} (hd : DrawG (G k) d) (hG : ∀ k, G (k + 1) s = fnG 2 4 (cShuf d (G k))) : ShufG (G (k + 1)) s := fun S T g m ds Q h1 h2 h3 h4 h5 h6 h7 => by
  rw [hG]; exact shuf_sat hd S T g m ds Q h1 h2 h3 h4 h5 h6 h7
def TurnsG (Γ : Fns) (i : Nat) : Prop := ∀ (S : List Int) (T : Tp) (g : Hh) (many : Int) (Q : D → Hh → Prop), 0 ≤ T.pos → 0 ≤ many → many ≤ 1000 →
  (∀ (es : List D) (T' : Tp), (∀ e ∈ es, ∃ i : Int, e = .p (.int i) ∧ 0 ≤ i ∧ i < many) → es.length ≤ 1000 → 0 ≤ T'.pos → Q (.ref (g.length + 3)) (hp S T' (g ++ [.lst es]))) → (Γ i [.ref 2, .p (.int many)] (hp S T g)).sat Q
theorem turns_lv {d s t k : Nat} (hd : DrawG (G k) d) (hs : ShufG (G k) s) (hG : ∀ k, G (k + 1) t = fnG 2 3 (cTurns d s (G k))) : TurnsG (G (k + 1)) t := fun S T g many Q h1 h2 h3 h4 => by
  rw [hG]; exact turns_sat hd hs S T g many Q h1 h2 h3 h4
end
end MP
end

section
set_option linter.all false
namespace MP.K33
open PySem (Str)
/-- bound_of -/
def f_bound_of (Γ : Fns) : MS := sseqs [
    sif (mcmpT .le (mv 2) (mv 0)) (sseqs [sret (mv 2)]) (sseqs []),
    sif (mcmpT .gt (mv 1) (mv 0)) (sseqs [sret (mbin .add (mv 0) (mc (.int 1)))]) (sseqs []),
    sasg (gnm 3) (mbin .fdiv (mbin .sub (mv 2) (mc (.int 1))) (mv 0)),
    sasg (gnm 4) (mbin .sub (mv 2) (mbin .mul (mv 3) (mv 0))),
    sret (mbin .add (mbin .mul (mv 3) (mbin .sub (mbin .add (mv 0) (mc (.int 1))) (mv 1))) (mblt .max2 [(mv 4), (mv 1)]))]
/-- most_fills -/
def f_most_fills (Γ : Fns) : MS := sseqs [
    sif (mcmpT .le (mv 2) (mv 0)) (sseqs [sret (mv 2)]) (sseqs []),
    sif (mcmpT .gt (mv 1) (mv 0)) (sseqs [sret (mc .non)]) (sseqs []),
    sasg (gnm 3) (mbin .sub (mbin .add (mv 0) (mc (.int 1))) (mv 1)),
    sret (mbin .add (mbin .add (mbin .mul (mbin .fdiv (mbin .sub (mv 2) (mv 1)) (mv 3)) (mv 0)) (mv 1)) (mbin .mod (mbin .sub (mv 2) (mv 1)) (mv 3)))]
/-- factor_of -/
def f_factor_of (Γ : Fns) : MS := sseqs [
    sasg (gnm 2) (mbin .sub (mbin .add (mv 0) (mc (.int 1))) (mv 1)),
    sasg (gnm 3) (mcall Γ 19 [(mv 0), (mv 2)]),
    sret (mtup [(mbin .fdiv (mv 0) (mv 3)), (mbin .fdiv (mv 2) (mv 3))])]
/-- law_tape -/
def f_law_tape (Γ : Fns) : MS := sseqs [
    sasg (gnm 1) (mc (.int 7)),
    sfor (mival (mv 0)) (gnm 2) (sseqs [sasg (gnm 1) (mbin .mod (mblt .int [(mbin .add (mbin .mul (mv 1) (mc (.int 31))) (mblt .abs [(mblt .int [(mv 2)])]))]) (mc (.int 2147483647)))]),
    sret (mlst [(mblt .list [(mv 0)]), (mc (.int 0)), (mc (.int 0)), (mv 1)])]
/-- law_draw -/
def f_law_draw (Γ : Fns) : MS := sseqs [
    sif (mcmpT .eq (midx (mv 0) (mc (.int 2))) (mc (.int 0))) (sseqs [sasg (gnm 3) (midx (mv 0) (mc (.int 1))), sasg (gsub (mv 0) (mc (.int 1))) (mbin .add (mv 3) (mc (.int 1))), sif (mcmpT .lt (mv 3) (mblt .len [(midx (mv 0) (mc (.int 0)))])) (sseqs [sasg (gnm 2) (mblt .abs [(mblt .int [(midx (midx (mv 0) (mc (.int 0))) (mv 3))])])]) (sseqs [sasg (gsub (mv 0) (mc (.int 3))) (mbin .mod (mblt .int [(mbin .add (mbin .add (mbin .mul (midx (mv 0) (mc (.int 3))) (mc (.int 48271))) (mv 3)) (mc (.int 1)))]) (mc (.int 2147483647))), sasg (gnm 2) (midx (mv 0) (mc (.int 3)))]), sif (mcmpT .lt (mv 2) (mbin .pow (mc (.int 10)) (mc (.int 18)))) (sseqs [sasg (gnm 2) (mbin .mod (mblt .int [(mbin .add (mbin .add (mbin .mul (mv 2) (mc (.int 48271))) (mbin .mul (mv 3) (mc (.int 69621)))) (mc (.int 5)))]) (mc (.int 2147483647))), sret (mbin .mod (mblt .int [(mbin .mod (mblt .int [(mbin .mul (mv 2) (mc (.int 69621)))]) (mc (.int 2147483629)))]) (mblt .max2 [(mv 1), (mc (.int 1))]))]) (sseqs []), sasg (gsub (mv 0) (mc (.int 2))) (mv 2)]) (sseqs []),
    sasg (gnm 2) (midx (mv 0) (mc (.int 2))),
    sasg (gsub (mv 0) (mc (.int 2))) (mbin .fdiv (mv 2) (mblt .max2 [(mv 1), (mc (.int 2))])),
    sret (mbin .mod (mblt .int [(mv 2)]) (mblt .max2 [(mv 1), (mc (.int 1))]))]
/-- law_pick -/
def f_law_pick (Γ : Fns) : MS := sseqs [
    sret (midx (mv 1) (mcall Γ 4 [(mv 0), (mblt .len [(mv 1)])]))]
/-- law_shuffled -/
def f_law_shuffled (Γ : Fns) : MS := sseqs [
    sasg (gnm 2) (mblt .list [(mv 1)]),
    sret (mlc (mirg (mr1 (mblt .len [(mv 1)]))) (gnm 3) myes (mmth .pop1 (mv 2) [(mcall Γ 4 [(mv 0), (mblt .len [(mv 2)])])]) [3])]
/-- law_turns -/
def f_law_turns (Γ : Fns) : MS := sseqs [
    sasg (gnm 2) (mcall Γ 6 [(mv 0), (mlrg (mr1 (mv 1)))]),
    sret (mcut (mv 2) mo0 (mo1 (midx (mlst [(mv 1), (mv 1), (mc (.int 1))]) (mcall Γ 4 [(mv 0), (mc (.int 3))]))))]
/-- law_whole -/
def f_law_whole (Γ : Fns) : MS := sseqs [
    sret (mand (misi .int (mv 0)) (mnot (misi .bool (mv 0))))]
/-- law_same -/
def f_law_same (Γ : Fns) : MS := sseqs [
    sif (mtru (misi .tuple (mv 1))) (sseqs [sret (mand (misi .tuple (mv 0)) (mand (mB (mcmpT .eq (mblt .len [(mv 0)]) (mblt .len [(mv 1)]))) (mB (mcmpT .notin (mc (.bl false)) (mlc (mirg (mr1 (mblt .len [(mv 1)]))) (gnm 2) myes (mcall Γ 9 [(midx (mv 0) (mv 2)), (midx (mv 1) (mv 2))]) [2])))))]) (sseqs []),
    sif (morT (misnT false (mv 1)) (misnT false (mv 0))) (sseqs [sret (mand (mB (misnT false (mv 1))) (mB (misnT false (mv 0))))]) (sseqs []),
    sif (mtru (misi .str (mv 1))) (sseqs [sret (mand (misi .str (mv 0)) (mB (mcmpT .eq (mv 0) (mv 1))))]) (sseqs []),
    sret (mand (mB (mcmpT .eq (misi .bool (mv 0)) (misi .bool (mv 1)))) (mand (misi .int (mv 0)) (mB (mcmpT .eq (mv 0) (mv 1)))))]
/-- law_b_bound -/
def f_law_b_bound (Γ : Fns) : MS := sseqs [
    sif (mcmpT .le (mv 2) (mv 0)) (sseqs [sret (mv 2)]) (sseqs []),
    sif (mcmpT .gt (mv 1) (mv 0)) (sseqs [sret (mbin .add (mv 0) (mc (.int 1)))]) (sseqs []),
    sasg (gnm 3) (mbin .fdiv (mbin .sub (mv 2) (mc (.int 1))) (mv 0)),
    sret (mbin .add (mbin .mul (mv 3) (mbin .sub (mbin .add (mv 0) (mc (.int 1))) (mv 1))) (mblt .max2 [(mbin .sub (mv 2) (mbin .mul (mv 3) (mv 0))), (mv 1)]))]
/-- law_gcd -/
def f_law_gcd (Γ : Fns) : MS := sseqs [
    swhile (mcmpT .gt (mv 1) (mc (.int 0))) (sseqs [sasg (gnm 2) (mbin .mod (mblt .int [(mv 0)]) (mblt .int [(mv 1)])), sasg (gnm 0) (mv 1), sasg (gnm 1) (mv 2)]),
    sret (mv 0)]
/-- law_numbers -/
def f_law_numbers (Γ : Fns) : MS := sseqs [
    sasg (gnm 1) (mB (mcmpT .eq (mcall Γ 4 [(mv 0), (mc (.int 3))]) (mc (.int 0)))),
    sasg (gnm 2) (mbin .add (mc (.int 1)) (mcall Γ 4 [(mv 0), (midx (mlst [(mc (.int 9)), (mc (.int 9999))]) (mblt .int [(mv 1)]))])),
    sasg (gnm 3) (mbin .add (mc (.int 1)) (mcall Γ 4 [(mv 0), (midx (mlst [(mc (.int 9)), (mc (.int 9999))]) (mblt .int [(mv 1)]))])),
    sasg (gnm 4) (mcall Γ 5 [(mv 0), (mlst [(mv 3), (mv 3), (mc (.int 1)), (mv 2), (mblt .min2 [(mc (.int 9999)), (mbin .add (mv 2) (mc (.int 1)))]), (mblt .max2 [(mc (.int 1)), (mbin .sub (mv 2) (mc (.int 1)))]), (mbin .add (mbin .fdiv (mv 2) (mc (.int 2))) (mc (.int 1))), (mblt .min2 [(mv 3), (mv 2)])])]),
    sasg (gnm 5) (mbin .mul (mv 2) (mcall Γ 4 [(mv 0), (mbin .add (mbin .fdiv (mc (.int 9999)) (mv 2)) (mc (.int 1)))])),
    sasg (gnm 6) (mcall Γ 5 [(mv 0), (mlst [(mv 5), (mblt .min2 [(mc (.int 9999)), (mbin .add (mv 5) (mc (.int 1)))]), (mblt .max2 [(mc (.int 0)), (mbin .sub (mv 5) (mc (.int 1)))]), (mcall Γ 4 [(mv 0), (mc (.int 10000))]), (mcall Γ 4 [(mv 0), (mc (.int 60))]), (mc (.int 0)), (mv 2), (mblt .min2 [(mc (.int 9999)), (mbin .add (mv 2) (mc (.int 1)))]), (mbin .sub (mv 2) (mc (.int 1)))])]),
    sasg (gnm 7) (mcall Γ 10 [(mv 2), (mv 4), (mv 6)]),
    sasg (gnm 8) (mcall Γ 5 [(mv 0), (mlst [(mv 7), (mblt .min2 [(mc (.int 9999)), (mbin .add (mv 7) (mc (.int 1)))]), (mblt .max2 [(mc (.int 0)), (mbin .sub (mv 7) (mc (.int 1)))]), (mcall Γ 4 [(mv 0), (mc (.int 10000))]), (mcall Γ 4 [(mv 0), (mc (.int 40))]), (mc (.int 0)), (mv 4), (mv 2), (mblt .min2 [(mc (.int 9999)), (mbin .add (mv 2) (mc (.int 1)))])])]),
    sret (mlst [(mv 2), (mv 4), (mv 6), (mv 8)])]
/-- law_changed -/
def f_law_changed (Γ : Fns) : MS := sseqs [
    sasg (gnm 2) (mblt .list [(mv 1)]),
    sasg (gnm 3) (mcall Γ 4 [(mv 0), (mc (.int 4))]),
    sasg (gnm 4) (midx (mlst [(mc (.int 1)), (mc (.int 1)), (mc (.int 0)), (mc (.int 0))]) (mv 3)),
    sasg (gsub (mv 2) (mv 3)) (mcall Γ 5 [(mv 0), (mlst [(mblt .min2 [(mc (.int 9999)), (mbin .add (midx (mv 2) (mv 3)) (mc (.int 1)))]), (mblt .max2 [(mv 4), (mbin .sub (midx (mv 2) (mv 3)) (mc (.int 1)))]), (mbin .add (mv 4) (mcall Γ 4 [(mv 0), (mc (.int 60))])), (mblt .min2 [(mc (.int 9999)), (midx (mv 2) (mc (.int 0)))])])]),
    sret (mv 2)]
/-- law_bound_right -/
def f_law_bound_right (Γ : Fns) : MS := sseqs [
    sif (mnotT (mtru (mcall Γ 9 [(mcall Γ 0 [(mv 0), (mv 1), (mv 2)]), (mcall Γ 10 [(mv 0), (mv 1), (mv 2)])]))) (sseqs [sret (mc (.bl false))]) (sseqs []),
    sasg (gnm 3) (mcall Γ 10 [(mv 0), (mv 1), (mv 2)]),
    sif (mcmpT .lt (mv 2) (mc (.int 9999))) (sseqs [sasg (gnm 4) (mcall Γ 0 [(mv 0), (mv 1), (mbin .add (mv 2) (mc (.int 1)))]), sif (morT (mnotT (mtru (mcall Γ 8 [(mv 4)]))) (mcmpT .notin (mv 4) (mlst [(mv 3), (mbin .add (mv 3) (mc (.int 1)))]))) (sseqs [sret (mc (.bl false))]) (sseqs [])]) (sseqs []),
    sif (mandT (mcmpT .le (mv 1) (mv 0)) (mandT (mcmpT .le (mv 0) (mv 2)) (mcmpT .le (mbin .add (mv 2) (mv 0)) (mc (.int 9999))))) (sseqs [sret (mcall Γ 9 [(mcall Γ 0 [(mv 0), (mv 1), (mbin .add (mv 2) (mv 0))]), (mbin .sub (mbin .add (mbin .add (mv 3) (mv 0)) (mc (.int 1))) (mv 1))])]) (sseqs []),
    sret (mc (.bl true))]
/-- law_most_right -/
def f_law_most_right (Γ : Fns) : MS := sseqs [
    sasg (gnm 3) (mcall Γ 1 [(mv 0), (mv 1), (mv 2)]),
    sif (mandT (mcmpT .gt (mv 1) (mv 0)) (mcmpT .gt (mv 2) (mv 0))) (sseqs [sret (mB (misnT false (mv 3)))]) (sseqs []),
    sret (mand (mcall Γ 8 [(mv 3)]) (mand (mB (mcmpT .ge (mv 3) (mc (.int 0)))) (mand (mB (mcmpT .le (mcall Γ 10 [(mv 0), (mv 1), (mv 3)]) (mv 2))) (mB (mcmpT .gt (mcall Γ 10 [(mv 0), (mv 1), (mbin .add (mv 3) (mc (.int 1)))]) (mv 2))))))]
/-- law_factor_right -/
def f_law_factor_right (Γ : Fns) : MS := sseqs [
    sif (mcmpT .gt (mv 1) (mv 0)) (sseqs [sret (mc (.bl true))]) (sseqs []),
    sasg (gnm 3) (mcall Γ 2 [(mv 0), (mv 1)]),
    sasg (gnm 4) (mcall Γ 11 [(mv 0), (mbin .sub (mbin .add (mv 0) (mc (.int 1))) (mv 1))]),
    sif (mnotT (mtru (mcall Γ 9 [(mv 3), (mtup [(mbin .fdiv (mv 0) (mv 4)), (mbin .fdiv (mbin .sub (mbin .add (mv 0) (mc (.int 1))) (mv 1)) (mv 4))])]))) (sseqs [sret (mc (.bl false))]) (sseqs []),
    sif (mcmpT .gt (mbin .mul (midx (mv 3) (mc (.int 1))) (mv 2)) (mbin .mul (midx (mv 3) (mc (.int 0))) (mcall Γ 10 [(mv 0), (mv 1), (mv 2)]))) (sseqs [sret (mc (.bl false))]) (sseqs []),
    sret (mor (mB (mcmpT .ne (mv 0) (mbin .sub (mbin .mul (mc (.int 2)) (mv 1)) (mc (.int 1))))) (mB (mcmpT .lt (midx (mv 3) (mc (.int 0))) (mbin .mul (mc (.int 2)) (midx (mv 3) (mc (.int 1)))))))]
/-- law_right -/
def f_law_right (Γ : Fns) : MS := sseqs [
    sasg (gtup [(gnm 2), (gnm 3), (gnm 4), (gnm 5)]) (mv 1),
    sif (mcmpT .eq (mv 0) (mc (.int 0))) (sseqs [sret (mcall Γ 14 [(mv 2), (mv 3), (mv 4)])]) (sseqs []),
    sif (mcmpT .eq (mv 0) (mc (.int 1))) (sseqs [sret (mcall Γ 15 [(mv 2), (mv 3), (mv 5)])]) (sseqs []),
    sret (mcall Γ 16 [(mv 2), (mv 3), (mv 4)])]
/-- law -/
def f_law (Γ : Fns) : MS := sseqs [
    sasg (gnm 1) (mcall Γ 3 [(mv 0)]),
    sasg (gnm 2) (mlc (mirg (mr1 (mc (.int 4)))) (gnm 6) myes (mcall Γ 12 [(mv 1)]) [6]),
    sfor (mival (mv 2)) (gnm 3) (sseqs [sasg (gnm 4) (mcall Γ 13 [(mv 1), (mv 3)]), sfor (mival (mcall Γ 7 [(mv 1), (mc (.int 3))])) (gnm 5) (sseqs [sif (mnotT (mtru (mcall Γ 17 [(mv 5), (mv 3)]))) (sseqs [sret (mc (.bl false))]) (sseqs [])]), sfor (mirg (mr1 (mc (.int 3)))) (gnm 5) (sseqs [sif (morT (mnotT (mtru (mcall Γ 17 [(mv 5), (mv 4)]))) (mnotT (mtru (mcall Γ 17 [(mv 5), (mv 3)])))) (sseqs [sret (mc (.bl false))]) (sseqs [])])]),
    sfor (mival (mv 2)) (gnm 3) (sseqs [sfor (mirg (mr1 (mc (.int 3)))) (gnm 5) (sseqs [sif (mnotT (mtru (mcall Γ 17 [(mv 5), (mv 3)]))) (sseqs [sret (mc (.bl false))]) (sseqs [])])]),
    sret (mc (.bl true))]
def f_gcd (Γ : Fns) : MS := gcdS
def fns : List FnD := [⟨3, 5, f_bound_of⟩, ⟨3, 4, f_most_fills⟩, ⟨2, 4, f_factor_of⟩, ⟨1, 3, f_law_tape⟩, ⟨2, 4, f_law_draw⟩, ⟨2, 2, f_law_pick⟩, ⟨2, 4, f_law_shuffled⟩, ⟨2, 3, f_law_turns⟩, ⟨1, 1, f_law_whole⟩, ⟨2, 3, f_law_same⟩, ⟨3, 4, f_law_b_bound⟩, ⟨2, 3, f_law_gcd⟩, ⟨1, 9, f_law_numbers⟩, ⟨2, 5, f_law_changed⟩, ⟨3, 5, f_law_bound_right⟩, ⟨3, 4, f_law_most_right⟩, ⟨3, 5, f_law_factor_right⟩, ⟨2, 6, f_law_right⟩, ⟨1, 7, f_law⟩, ⟨2, 2, f_gcd⟩]
@[irreducible] def F : Nat → Fns := runF fns
theorem F_0 (k : Nat) : F (k + 1) 0 = fnG 3 5 (f_bound_of (F k)) := by unfold F; rfl
theorem F_1 (k : Nat) : F (k + 1) 1 = fnG 3 4 (f_most_fills (F k)) := by unfold F; rfl
theorem F_2 (k : Nat) : F (k + 1) 2 = fnG 2 4 (f_factor_of (F k)) := by unfold F; rfl
theorem F_3 (k : Nat) : F (k + 1) 3 = fnG 1 3 (f_law_tape (F k)) := by unfold F; rfl
theorem F_4 (k : Nat) : F (k + 1) 4 = fnG 2 4 (f_law_draw (F k)) := by unfold F; rfl
theorem F_5 (k : Nat) : F (k + 1) 5 = fnG 2 2 (f_law_pick (F k)) := by unfold F; rfl
theorem F_6 (k : Nat) : F (k + 1) 6 = fnG 2 4 (f_law_shuffled (F k)) := by unfold F; rfl
theorem F_7 (k : Nat) : F (k + 1) 7 = fnG 2 3 (f_law_turns (F k)) := by unfold F; rfl
theorem F_8 (k : Nat) : F (k + 1) 8 = fnG 1 1 (f_law_whole (F k)) := by unfold F; rfl
theorem F_9 (k : Nat) : F (k + 1) 9 = fnG 2 3 (f_law_same (F k)) := by unfold F; rfl
theorem F_10 (k : Nat) : F (k + 1) 10 = fnG 3 4 (f_law_b_bound (F k)) := by unfold F; rfl
theorem F_11 (k : Nat) : F (k + 1) 11 = fnG 2 3 (f_law_gcd (F k)) := by unfold F; rfl
theorem F_12 (k : Nat) : F (k + 1) 12 = fnG 1 9 (f_law_numbers (F k)) := by unfold F; rfl
theorem F_13 (k : Nat) : F (k + 1) 13 = fnG 2 5 (f_law_changed (F k)) := by unfold F; rfl
theorem F_14 (k : Nat) : F (k + 1) 14 = fnG 3 5 (f_law_bound_right (F k)) := by unfold F; rfl
theorem F_15 (k : Nat) : F (k + 1) 15 = fnG 3 4 (f_law_most_right (F k)) := by unfold F; rfl
theorem F_16 (k : Nat) : F (k + 1) 16 = fnG 3 5 (f_law_factor_right (F k)) := by unfold F; rfl
theorem F_17 (k : Nat) : F (k + 1) 17 = fnG 2 6 (f_law_right (F k)) := by unfold F; rfl
theorem F_18 (k : Nat) : F (k + 1) 18 = fnG 1 7 (f_law (F k)) := by unfold F; rfl
theorem F_19 (k : Nat) : F (k + 1) 19 = fnG 2 2 (f_gcd (F k)) := by unfold F; rfl
end MP.K33
end

section
set_option linter.all false
set_option Elab.async false
set_option maxRecDepth 100000
set_option maxHeartbeats 8000000
namespace MP.K33
open PySem L2
abbrev body : List Stmt := PySem.Challenge.pw_sharepage_k33_bound_steps_factor_most_fi.main.body
abbrev at_ (i : Nat) : Stmt := body.getD i (.Pass ⟨0, 0, 0, 0⟩)
def FT : List (Str × Nat) := [("bound_of", 0), ("most_fills", 1), ("factor_of", 2), ("_law_tape", 3), ("_law_draw", 4), ("_law_pick", 5), ("_law_shuffled", 6), ("_law_turns", 7), ("_law_whole", 8), ("_law_same", 9), ("_law_b_bound", 10), ("_law_gcd", 11), ("_law_numbers", 12), ("_law_changed", 13), ("_law_bound_right", 14), ("_law_most_right", 15), ("_law_factor_right", 16), ("_law_right", 17), ("law", 18), ("gcd", 19)]
def d0 : DefI := ⟨"bound_of", at_ 2, ["size", "h", "fills", "turns", "rest"], ["size", "h", "fills"], f_bound_of, false⟩
def d1 : DefI := ⟨"most_fills", at_ 3, ["size", "h", "least", "step"], ["size", "h", "least"], f_most_fills, false⟩
def d2 : DefI := ⟨"factor_of", at_ 4, ["size", "h", "step", "common"], ["size", "h"], f_factor_of, false⟩
def d3 : DefI := ⟨"_law_tape", at_ 6, ["script", "mixed", "cell"], ["script"], f_law_tape, false⟩
def d4 : DefI := ⟨"_law_draw", at_ 7, ["tape", "many", "number", "place"], ["tape", "many"], f_law_draw, false⟩
def d5 : DefI := ⟨"_law_pick", at_ 8, ["tape", "menu"], ["tape", "menu"], f_law_pick, false⟩
def d6 : DefI := ⟨"_law_shuffled", at_ 9, ["tape", "menu", "held", "k"], ["tape", "menu"], f_law_shuffled, false⟩
def d7 : DefI := ⟨"_law_turns", at_ 10, ["tape", "many", "turns"], ["tape", "many"], f_law_turns, false⟩
def d8 : DefI := ⟨"_law_whole", at_ 11, ["told"], ["told"], f_law_whole, false⟩
def d9 : DefI := ⟨"_law_same", at_ 12, ["told", "wanted", "k"], ["told", "wanted"], f_law_same, false⟩
def d10 : DefI := ⟨"_law_b_bound", at_ 13, ["size", "h", "fills", "many"], ["size", "h", "fills"], f_law_b_bound, false⟩
def d11 : DefI := ⟨"_law_gcd", at_ 14, ["one", "other", "rest"], ["one", "other"], f_law_gcd, false⟩
def d12 : DefI := ⟨"_law_numbers", at_ 15, ["tape", "great", "size", "any_frames", "h", "near", "fills", "bound", "least"], ["tape"], f_law_numbers, false⟩
def d13 : DefI := ⟨"_law_changed", at_ 16, ["tape", "numbers", "row", "k", "low"], ["tape", "numbers"], f_law_changed, false⟩
def d14 : DefI := ⟨"_law_bound_right", at_ 17, ["size", "h", "fills", "bound", "more"], ["size", "h", "fills"], f_law_bound_right, false⟩
def d15 : DefI := ⟨"_law_most_right", at_ 18, ["size", "h", "least", "told"], ["size", "h", "least"], f_law_most_right, false⟩
def d16 : DefI := ⟨"_law_factor_right", at_ 19, ["size", "h", "fills", "told", "part"], ["size", "h", "fills"], f_law_factor_right, false⟩
def d17 : DefI := ⟨"_law_right", at_ 20, ["word", "numbers", "size", "h", "fills", "least"], ["word", "numbers"], f_law_right, false⟩
def d18 : DefI := ⟨"law", at_ 21, ["script", "tape", "rows", "numbers", "changed", "word", "k"], ["script"], f_law, false⟩
def d19 : DefI := ⟨"gcd", at_ 0, ["a", "b"], ["a", "b"], f_gcd, true⟩
theorem c0 : DefC FT d0 := ⟨by decide +kernel, fun Γ => by kernel_rfl⟩
theorem c1 : DefC FT d1 := ⟨by decide +kernel, fun Γ => by kernel_rfl⟩
theorem c2 : DefC FT d2 := ⟨by decide +kernel, fun Γ => by kernel_rfl⟩
theorem c3 : DefC FT d3 := ⟨by decide +kernel, fun Γ => by kernel_rfl⟩
theorem c4 : DefC FT d4 := ⟨by decide +kernel, fun Γ => by kernel_rfl⟩
theorem c5 : DefC FT d5 := ⟨by decide +kernel, fun Γ => by kernel_rfl⟩
theorem c6 : DefC FT d6 := ⟨by decide +kernel, fun Γ => by kernel_rfl⟩
theorem c7 : DefC FT d7 := ⟨by decide +kernel, fun Γ => by kernel_rfl⟩
theorem c8 : DefC FT d8 := ⟨by decide +kernel, fun Γ => by kernel_rfl⟩
theorem c9 : DefC FT d9 := ⟨by decide +kernel, fun Γ => by kernel_rfl⟩
theorem c10 : DefC FT d10 := ⟨by decide +kernel, fun Γ => by kernel_rfl⟩
theorem c11 : DefC FT d11 := ⟨by decide +kernel, fun Γ => by kernel_rfl⟩
theorem c12 : DefC FT d12 := ⟨by decide +kernel, fun Γ => by kernel_rfl⟩
theorem c13 : DefC FT d13 := ⟨by decide +kernel, fun Γ => by kernel_rfl⟩
theorem c14 : DefC FT d14 := ⟨by decide +kernel, fun Γ => by kernel_rfl⟩
theorem c15 : DefC FT d15 := ⟨by decide +kernel, fun Γ => by kernel_rfl⟩
theorem c16 : DefC FT d16 := ⟨by decide +kernel, fun Γ => by kernel_rfl⟩
theorem c17 : DefC FT d17 := ⟨by decide +kernel, fun Γ => by kernel_rfl⟩
theorem c18 : DefC FT d18 := ⟨by decide +kernel, fun Γ => by kernel_rfl⟩
def defs : List DefI := [d0, d1, d2, d3, d4, d5, d6, d7, d8, d9, d10, d11, d12, d13, d14, d15, d16, d17, d18, d19]
theorem ft_eq : ftOf defs = FT := by kernel_rfl
theorem fns_eq : fnsOf defs = fns := rfl
end MP.K33
end

section
set_option autoImplicit false
set_option linter.all false
/-! K33Pure: the bound. -/
namespace MP.K33
open MP
def Bd (s h f : Int) : Int := if f ≤ s then f else if s < h then s + 1 else (f - 1).fdiv s * (s + 1 - h) + (if h > f - (f - 1).fdiv s * s then h else f - (f - 1).fdiv s * s)
section
variable {s h f : Int}
theorem div_at (hs : 0 < s) {m r : Int} (r1 : 1 ≤ r) (r2 : r ≤ s) : (m * s + r - 1).fdiv s = m := by
  rw [Int.fdiv_eq_ediv_of_nonneg _ (by omega), show m * s + r - 1 = (r - 1) + m * s by omega, Int.add_mul_ediv_right _ _ (by omega), Int.ediv_eq_zero_of_lt (by omega) (by omega)]
  omega
theorem Bd_at (hs : 0 < s) (h1 : 1 ≤ h) (h2 : h ≤ s) {m r : Int} (hm : 1 ≤ m) (r1 : 1 ≤ r) (r2 : r ≤ s) : Bd s h (m * s + r) = m * (s + 1 - h) + (if h > r then h else r) := by
  have hms : s ≤ m * s := by
    have := Int.mul_le_mul_of_nonneg_right hm (show 0 ≤ s by omega)
    omega
  unfold Bd
  rw [if_neg (by omega), if_neg (by omega), div_at hs r1 r2, show m * s + r - m * s = r by omega]
theorem split_at (hs : 0 < s) (hf : s < f) : ∃ m r, 1 ≤ m ∧ 1 ≤ r ∧ r ≤ s ∧ f = m * s + r := by
  have e := Int.emod_add_mul_ediv (f - 1) s
  have e1 := Int.emod_nonneg (f - 1) (show s ≠ 0 by omega)
  have e2 := Int.emod_lt_of_pos (f - 1) hs
  refine ⟨(f - 1) / s, (f - 1) % s + 1, ?_, by omega, by omega, ?_⟩
  · exact (Int.le_ediv_iff_mul_le hs).mpr (by omega)
  · rw [Int.mul_comm] at e
    omega
theorem Bd_low (hf : f ≤ s) : Bd s h f = f := if_pos hf
theorem Bd_high (hf : s < f) (hh : s < h) : Bd s h f = s + 1 := by
  unfold Bd
  rw [if_neg (by omega), if_pos hh]
theorem Bd_edge (hs : 0 < s) (h1 : 1 ≤ h) : Bd s h (s + 1) = s + 1 := by
  by_cases hh : s < h
  · exact Bd_high (by omega) hh
  · have := Bd_at (m := 1) (r := 1) hs h1 (by omega) (by omega) (by omega) (by omega)
    rw [Int.one_mul] at this
    rw [this]
    split <;> omega
theorem Bd_step (hs : 0 < s) (h1 : 1 ≤ h) : Bd s h (f + 1) = Bd s h f ∨ Bd s h (f + 1) = Bd s h f + 1 := by
  by_cases c1 : f + 1 ≤ s
  · right; rw [Bd_low c1, Bd_low (by omega)]
  by_cases c2 : f = s
  · right; subst c2; rw [Bd_edge hs h1, Bd_low (Int.le_refl _)]
  by_cases hh : s < h
  · left; rw [Bd_high (by omega) hh, Bd_high (by omega) hh]
  obtain ⟨m, r, hm, r1, r2, rfl⟩ := split_at hs (show s < f by omega)
  rw [Bd_at hs h1 (by omega) hm r1 r2]
  by_cases c3 : r = s
  · subst c3
    have e : m * r + r + 1 = (m + 1) * r + 1 := by rw [Int.add_mul]; omega
    rw [e, Bd_at hs h1 (by omega) (by omega) (by omega) (by omega), Int.add_mul]
    generalize m * (r + 1 - h) = u
    right
    (repeat' split) <;> omega
  · have e : m * s + r + 1 = m * s + (r + 1) := by omega
    rw [e, Bd_at hs h1 (by omega) hm (by omega) (by omega)]
    generalize m * (s + 1 - h) = u
    (repeat' split) <;> omega
theorem Bd_more (hs : 0 < s) (h1 : 1 ≤ h) (h2 : h ≤ s) (hf : s ≤ f) : Bd s h (f + s) = Bd s h f + s + 1 - h := by
  by_cases c : f = s
  · subst c
    have := Bd_at (m := 1) (r := f) hs h1 h2 (by omega) (by omega) (by omega)
    rw [Int.one_mul] at this
    rw [this, Bd_low (Int.le_refl _)]
    split <;> omega
  obtain ⟨m, r, hm, r1, r2, rfl⟩ := split_at hs (show s < f by omega)
  have e : m * s + r + s = (m + 1) * s + r := by rw [Int.add_mul]; omega
  rw [e, Bd_at hs h1 h2 (by omega) r1 r2, Bd_at hs h1 h2 hm r1 r2, Int.add_mul]
  generalize m * (s + 1 - h) = u
  split <;> omega
theorem Bd_nonneg (hs : 0 < s) (h1 : 1 ≤ h) (hf : 0 ≤ f) : 0 ≤ Bd s h f := by
  by_cases c : f ≤ s
  · rw [Bd_low c]; exact hf
  by_cases c2 : s < h
  · rw [Bd_high (by omega) c2]; omega
  obtain ⟨m, r, hm, r1, r2, rfl⟩ := split_at hs (show s < f by omega)
  rw [Bd_at hs h1 (by omega) hm r1 r2]
  have := Int.mul_nonneg (show 0 ≤ m by omega) (show 0 ≤ s + 1 - h by omega)
  split <;> omega
/-- the most fills of a least number -/
def Mf (s h l : Int) : Int := (l - h).fdiv (s + 1 - h) * s + h + (l - h).fmod (s + 1 - h)
theorem Mf_ok (hs : 0 < s) (h1 : 1 ≤ h) (h2 : h ≤ s) {l : Int} (hl : s < l) : 0 ≤ Mf s h l ∧ Bd s h (Mf s h l) ≤ l ∧ l < Bd s h (Mf s h l + 1) := by
  have hst : 0 < s + 1 - h := by omega
  have e := Int.emod_add_mul_ediv (l - h) (s + 1 - h)
  have e1 := Int.emod_nonneg (l - h) (show s + 1 - h ≠ 0 by omega)
  have e2 := Int.emod_lt_of_pos (l - h) hst
  have eq : 1 ≤ (l - h) / (s + 1 - h) := (Int.le_ediv_iff_mul_le hst).mpr (by omega)
  unfold Mf
  rw [Int.fdiv_eq_ediv_of_nonneg _ (by omega), Int.fmod_eq_emod_of_nonneg _ (by omega)]
  generalize (l - h) / (s + 1 - h) = q at *
  generalize (l - h) % (s + 1 - h) = r at *
  have hqs : s ≤ q * s := by
    have := Int.mul_le_mul_of_nonneg_right eq (show 0 ≤ s by omega)
    omega
  rw [Int.mul_comm] at e
  have e3 : q * s + h + r = q * s + (h + r) := by omega
  refine ⟨by omega, ?_, ?_⟩
  · rw [e3, Bd_at hs h1 h2 eq (by omega) (by omega), if_neg (by omega)]
    omega
  · by_cases c : h + r = s
    · have e4 : q * s + h + r + 1 = (q + 1) * s + 1 := by rw [Int.add_mul]; omega
      rw [e4, Bd_at hs h1 h2 (by omega) (by omega) (by omega), Int.add_mul]
      split <;> omega
    · have e4 : q * s + h + r + 1 = q * s + (h + r + 1) := by omega
      rw [e4, Bd_at hs h1 h2 eq (by omega) (by omega), if_neg (by omega)]
      omega
theorem Bd_factor (hs : 0 < s) (h1 : 1 ≤ h) (h2 : h ≤ s) (hf : 0 ≤ f) : (s + 1 - h) * f ≤ s * Bd s h f := by
  by_cases c : f ≤ s
  · rw [Bd_low c]
    exact Int.mul_le_mul_of_nonneg_right (by omega) hf
  obtain ⟨m, r, hm, r1, r2, rfl⟩ := split_at hs (show s < f by omega)
  rw [Bd_at hs h1 h2 hm r1 r2, Int.mul_add, Int.mul_add]
  have e1 : (s + 1 - h) * (m * s) = s * (m * (s + 1 - h)) := by
    rw [Int.mul_comm, Int.mul_comm m s, Int.mul_assoc]
  have e2 : (s + 1 - h) * r ≤ s * (if h > r then h else r) := by
    have z1 : (s + 1 - h) * r ≤ s * r := Int.mul_le_mul_of_nonneg_right (by omega) (by omega)
    have z2 : s * r ≤ s * (if h > r then h else r) := Int.mul_le_mul_of_nonneg_left (by split <;> omega) (by omega)
    omega
  omega
/-- the factor, made smallest -/
theorem parts {a b : Int} (ha : 0 < a) (hb : 0 < b) : ∃ g : Int, 0 < g ∧ ((Nat.gcd a.natAbs b.natAbs : Nat) : Int) = g ∧ a = a.fdiv g * g ∧ b = b.fdiv g * g := by
  have hg : 0 < Nat.gcd a.natAbs b.natAbs := Nat.gcd_pos_of_pos_left _ (by omega)
  refine ⟨_, by omega, rfl, ?_, ?_⟩
  · have d : ((Nat.gcd a.natAbs b.natAbs : Nat) : Int) ∣ a := Int.ofNat_dvd_left.mpr (Nat.gcd_dvd_left _ _)
    rw [Int.fdiv_eq_ediv_of_nonneg _ (by omega), Int.ediv_mul_cancel d]
  · have d : ((Nat.gcd a.natAbs b.natAbs : Nat) : Int) ∣ b := Int.ofNat_dvd_left.mpr (Nat.gcd_dvd_right _ _)
    rw [Int.fdiv_eq_ediv_of_nonneg _ (by omega), Int.ediv_mul_cancel d]
theorem le_parts {a b g x y u v : Int} (hg : 0 < g) (ha : a = u * g) (hb : b = v * g) (h : b * x ≤ a * y) : v * x ≤ u * y := by
  rw [ha, hb] at h
  have e1 : v * g * x = (v * x) * g := by rw [Int.mul_assoc, Int.mul_comm g x, ← Int.mul_assoc]
  have e2 : u * g * y = (u * y) * g := by rw [Int.mul_assoc, Int.mul_comm g y, ← Int.mul_assoc]
  rw [e1, e2] at h
  exact Int.le_of_mul_le_mul_right h hg
theorem lt_parts {a b g u v : Int} (hg : 0 < g) (ha : a = u * g) (hb : b = v * g) (h : a < 2 * b) : u < 2 * v := by
  rw [ha, hb, ← Int.mul_assoc] at h
  exact Int.lt_of_mul_lt_mul_right h (Int.le_of_lt hg)
end
end MP.K33
end

section
set_option autoImplicit false
set_option linter.all false
set_option maxRecDepth 20000
/-! K33Main: the law. -/
namespace MP.K33
open MP
theorem sameF : ∀ n k, SameG (F (k + n + 1)) 9 n := same_lv fun k => F_9 k
theorem drawF (k : Nat) : DrawG (F (k + 1)) 4 := draw_lv fun k => F_4 k
theorem pickF (k : Nat) : PickG (F (k + 2)) 5 := pick_lv (k := k + 1) (drawF k) fun k => F_5 k
theorem shufF (k : Nat) : ShufG (F (k + 2)) 6 := shuf_lv (k := k + 1) (drawF k) fun k => F_6 k
theorem turnsF (k : Nat) : TurnsG (F (k + 3)) 7 := turns_lv (k := k + 2) (drawF (k + 1)) (shufF k) fun k => F_7 k
section
variable {s h f : Int} {H : Hh} {Q : D → Hh → Prop} {k : Nat}
theorem same_int {i : Int} (q : Q (.p (.bl true)) H) : (F (k + 1) 9 [.p (.int i), .p (.int i)] H).sat Q := by
  rw [F_9]; exact same_flat (i := 9) rfl q
theorem same2 {x : P} (f : P.fit 2 x = true) (q : Q (.p (.bl true)) H) : (F (k + 3) 9 [.p x, .p x] H).sat Q := sameF 2 k x H Q f q
theorem bound_sat (s1 : 1 ≤ s) (s2 : s ≤ 9999) (h1 : 1 ≤ h) (h2 : h ≤ 9999) (q : Q (.p (.int (Bd s h f))) H) : (F (k + 1) 0 [.p (.int s), .p (.int h), .p (.int f)] H).sat Q := by
  rw [F_0]
  unfold fnG f_bound_of
  simp only [startE, List.length_cons, List.length_nil, if_true]
  unfold Bd at q
  simp [inW]
  split
  · rename_i c; rw [if_pos c] at q; exact q
  · rename_i c
    rw [if_neg c] at q
    split
    · rename_i c2; rw [if_pos c2] at q; exact q
    · rename_i c2
      rw [if_neg c2] at q
      exact ⟨by omega, by omega, by omega, q⟩
theorem bbound_sat (s1 : 1 ≤ s) (s2 : s ≤ 9999) (h1 : 1 ≤ h) (h2 : h ≤ 9999) (q : Q (.p (.int (Bd s h f))) H) : (F (k + 1) 10 [.p (.int s), .p (.int h), .p (.int f)] H).sat Q := by
  rw [F_10]
  unfold fnG f_law_b_bound
  simp only [startE, List.length_cons, List.length_nil, if_true]
  unfold Bd at q
  simp [inW]
  split
  · rename_i c; rw [if_pos c] at q; exact q
  · rename_i c
    rw [if_neg c] at q
    split
    · rename_i c2; rw [if_pos c2] at q; exact q
    · rename_i c2
      rw [if_neg c2] at q
      exact ⟨by omega, by omega, by omega, q⟩
theorem whole_sat {i : Int} (q : Q (.p (.bl true)) H) : (F (k + 1) 8 [.p (.int i)] H).sat Q := by
  rw [F_8]
  unfold fnG f_law_whole
  simp only [startE, List.length_cons, List.length_nil, if_true]
  simp [isTy]
  exact q
/-- what most_fills tells -/
def MfO (s h l : Int) : P := if l ≤ s then .int l else if s < h then .non else .int (Mf s h l)
theorem most_sat {l : Int} (s1 : 1 ≤ s) (s2 : s ≤ 9999) (h1 : 1 ≤ h) (h2 : h ≤ 9999) (q : Q (.p (MfO s h l)) H) : (F (k + 1) 1 [.p (.int s), .p (.int h), .p (.int l)] H).sat Q := by
  rw [F_1]
  unfold fnG f_most_fills
  simp only [startE, List.length_cons, List.length_nil, if_true]
  unfold MfO Mf at q
  simp [inW]
  split
  · rename_i c; rw [if_pos c] at q; exact q
  · rename_i c
    rw [if_neg c] at q
    split
    · rename_i c2; rw [if_pos c2] at q; exact q
    · rename_i c2
      rw [if_neg c2] at q
      exact ⟨by omega, by omega, by omega, q⟩
theorem boundR_sat (s1 : 1 ≤ s) (s2 : s ≤ 9999) (h1 : 1 ≤ h) (h2 : h ≤ 9999) (q : Q (.p (.bl true)) H) : (F (k + 2) 14 [.p (.int s), .p (.int h), .p (.int f)] H).sat Q := by
  rw [show k + 2 = (k + 1) + 1 by omega, F_14]
  unfold fnG f_law_bound_right
  simp only [startE, List.length_cons, List.length_nil, if_true]
  simp
  refine bound_sat s1 s2 h1 h2 ?_
  refine bbound_sat s1 s2 h1 h2 ?_
  refine same_int ?_
  simp
  refine bbound_sat s1 s2 h1 h2 ?_
  simp
  have fin : (if h ≤ s then if s ≤ f then if f + s ≤ 9999 then (F (k + 1) 0 [D.p (P.int s), D.p (P.int h), D.p (P.int (f + s))] H).sat fun d h1 => (F (k + 1) 9 [d, D.p (P.int (Bd s h f + s + 1 - h))] h1).sat fun d h' => (gcv H.length d h').sat fun d h => (gcv H.length d h).sat Q
      else Q (D.p (P.bl true)) H else Q (D.p (P.bl true)) H else Q (D.p (P.bl true)) H) := by
    split
    · split
      · split
        · refine bound_sat s1 s2 h1 h2 ?_
          rw [Bd_more (by omega) h1 (by omega) (by omega)]
          refine same_int ?_
          simpa using q
        · exact q
      · exact q
    · exact q
  split
  · refine bound_sat s1 s2 h1 h2 ?_
    simp
    refine whole_sat ?_
    simp
    refine ⟨by decide, ?_⟩
    rw [o_ninl (xs := [.int (Bd s h f), .int (Bd s h f + 1)]) (by rw [seq_new]; rfl)]
    have hb : ([P.int (Bd s h f), P.int (Bd s h f + 1)].any fun z => z.eqv (.int (Bd s h (f + 1)))) = true := by
      rcases Bd_step (f := f) (show 0 < s by omega) h1 with e | e <;> simp [P.eqv, e]
    rw [hb]
    refine ⟨rfl, ?_⟩
    simp
    exact fin
  · exact fin
theorem mostR_sat {l : Int} (s1 : 1 ≤ s) (s2 : s ≤ 9999) (h1 : 1 ≤ h) (h2 : h ≤ 9999) (hl : 0 ≤ l) (q : Q (.p (.bl true)) H) : (F (k + 2) 15 [.p (.int s), .p (.int h), .p (.int l)] H).sat Q := by
  rw [show k + 2 = (k + 1) + 1 by omega, F_15]
  unfold fnG f_law_most_right
  simp only [startE, List.length_cons, List.length_nil, if_true]
  simp
  refine most_sat s1 s2 h1 h2 ?_
  simp
  by_cases c : s < h ∧ s < l
  · rw [if_pos c.1, if_pos c.2]
    have e : MfO s h l = .non := by
      unfold MfO
      rw [if_neg (by omega), if_pos c.1]
    rw [e]
    exact q
  · obtain ⟨t, e, t0, t1, t2⟩ : ∃ t : Int, MfO s h l = .int t ∧ 0 ≤ t ∧ Bd s h t ≤ l ∧ l < Bd s h (t + 1) := by
      unfold MfO
      by_cases c1 : l ≤ s
      · rw [if_pos c1]
        refine ⟨l, rfl, hl, by rw [Bd_low c1]; exact Int.le_refl _, ?_⟩
        by_cases c2 : l = s
        · subst c2; rw [Bd_edge (by omega) h1]; omega
        · rw [Bd_low (by omega)]; omega
      · rw [if_neg c1, if_neg (by omega)]
        obtain ⟨z0, z1, z2⟩ := Mf_ok (show 0 < s by omega) h1 (show h ≤ s by omega) (show s < l by omega)
        exact ⟨_, rfl, z0, z1, z2⟩
    rw [e]
    have body : (F (k + 1) 8 [D.p (.int t)] H).sat fun x h1 => (truD x h1).sat fun k_1 h2 =>
        if k_1 = true then
          (copD Cop.ge (D.p (.int t)) (D.p (P.int 0)) h2).sat fun b h1 =>
            if b = true then
              (F (k + 1) 10 [D.p (P.int s), D.p (P.int h), D.p (.int t)] h1).sat fun x h1 =>
                (copD Cop.le x (D.p (P.int l)) h1).sat fun b h1 =>
                  if b = true then
                    (bopD Bop.add (D.p (.int t)) (D.p (P.int 1)) h1).sat fun d h1 =>
                      (F (k + 1) 10 [D.p (P.int s), D.p (P.int h), d] h1).sat fun x h1 =>
                        (copD Cop.gt x (D.p (P.int l)) h1).sat fun b h1 =>
                          Q (D.p (P.bl b)) (List.take (List.length H) (List.take (List.length H) h1))
                  else Q (D.p (P.bl b)) (List.take (List.length H) (List.take (List.length H) h1))
            else Q (D.p (P.bl b)) (List.take (List.length H) (List.take (List.length H) h1))
        else (gcv (List.length H) x h2).sat fun d h => (gcv (List.length H) d h).sat Q := by
      refine whole_sat ?_
      simp [t0]
      refine bbound_sat s1 s2 h1 h2 ?_
      simp [t1]
      refine bbound_sat s1 s2 h1 h2 ?_
      simp [t2]
      exact q
    split
    · rw [if_neg (by omega)]; exact body
    · exact body
theorem gcd_sat {a b : Int} (q : Q (.p (.int ((Nat.gcd a.natAbs b.natAbs : Nat) : Int))) H) : (F (k + 1) 19 [.p (.int a), .p (.int b)] H).sat Q := by
  rw [F_19]
  unfold fnG f_gcd gcdS
  simp only [startE, List.length_cons, List.length_nil, if_true]
  simp
  exact q
theorem factor_sat (s1 : 1 ≤ s) (s2 : s ≤ 9999) (h1 : 1 ≤ h) (h2 : h ≤ s) (q : ∀ g : Int, g = ((Nat.gcd s.natAbs (s + 1 - h).natAbs : Nat) : Int) → Q (.p (.tup [.int (s.fdiv g), .int ((s + 1 - h).fdiv g)])) H) : (F (k + 2) 2 [.p (.int s), .p (.int h)] H).sat Q := by
  rw [show k + 2 = (k + 1) + 1 by omega, F_2]
  unfold fnG f_factor_of
  simp only [startE, List.length_cons, List.length_nil, if_true]
  simp
  refine gcd_sat ?_
  simp
  have hg := Nat.gcd_pos_of_pos_left (n := (s + 1 - h).natAbs) (show 0 < s.natAbs by omega)
  have hg2 := Nat.gcd_le_left (n := (s + 1 - h).natAbs) (show 0 < s.natAbs by omega)
  exact ⟨⟨.inl (by omega), by omega⟩, by decide, q _ rfl⟩
theorem euclid_sat {a b : Int} (h1 : 0 ≤ a) (h2 : 0 ≤ b) (h3 : b ≤ 100000) (q : Q (.p (.int ((Nat.gcd a.natAbs b.natAbs : Nat) : Int))) H) : (F (k + 1) 11 [.p (.int a), .p (.int b)] H).sat Q := by
  rw [F_11]
  unfold fnG f_law_gcd
  simp only [startE, List.length_cons, List.length_nil, if_true]
  simp
  refine w_while (fun ρ h' => h' = H ∧ ∃ (x y : Int) (v : Option D), ρ = [some (.p (.int x)), some (.p (.int y)), v] ∧ 0 ≤ x ∧ 0 ≤ y ∧ Nat.gcd x.natAbs y.natAbs = Nat.gcd a.natAbs b.natAbs) (fun ρ _ => match ρ with | [_, some (.p (.int y)), _] => y.toNat | _ => 0) ⟨rfl, a, b, none, rfl, h1, h2, rfl⟩ (by simp [wfuel]; omega) ?_
  rintro ρ h' ⟨rfl, x, y, v, rfl, hx, hy, hg⟩
  simp
  split
  · rename_i c
    have e1 := Int.fmod_nonneg_of_pos x c
    have e2 := Int.fmod_lt_of_pos x c
    refine ⟨by omega, ⟨_, _, ⟨rfl, rfl⟩, hy, e1, ?_⟩, by omega⟩
    rw [Int.fmod_eq_emod_of_nonneg _ hy, Int.natAbs_emod_of_nonneg hx, Nat.gcd_comm, ← Nat.gcd_rec, Nat.gcd_comm]
    exact hg
  · rename_i c
    have : y = 0 := by omega
    subst this
    simp at hg
    rw [← hg] at q
    have e : ((x.natAbs : Nat) : Int) = x := by omega
    rw [e] at q
    exact q
theorem pr0 (a b : P) (h : Hh) : (idxD (.p (.tup [a, b])) (.p (.int 0)) h).sat Q ↔ Q (.p a) h := o_idxt rfl
theorem pr1 (a b : P) (h : Hh) : (idxD (.p (.tup [a, b])) (.p (.int 1)) h).sat Q ↔ Q (.p b) h := o_idxt rfl
theorem factorR_sat (s1 : 1 ≤ s) (s2 : s ≤ 9999) (h1 : 1 ≤ h) (h2 : h ≤ 9999) (f0 : 0 ≤ f) (q : Q (.p (.bl true)) H) : (F (k + 4) 16 [.p (.int s), .p (.int h), .p (.int f)] H).sat Q := by
  rw [show k + 4 = (k + 3) + 1 by omega, F_16]
  unfold fnG f_law_factor_right
  simp only [startE, List.length_cons, List.length_nil, if_true]
  simp
  split
  · exact q
  rename_i c
  refine factor_sat (k := k + 1) s1 s2 h1 (by omega) fun g hg => ?_
  simp
  refine euclid_sat (by omega) (by omega) (by omega) ?_
  rw [← hg]
  obtain ⟨g', g0, eg, ea, eb⟩ := parts (show 0 < s by omega) (show 0 < s + 1 - h by omega)
  rw [← hg] at eg
  subst eg
  simp
  have gs : g ≤ s := by
    have := Nat.gcd_le_left (n := (s + 1 - h).natAbs) (show 0 < s.natAbs by omega)
    omega
  have b1 : s.fdiv g ≤ s := by
    rw [Int.fdiv_eq_ediv_of_nonneg _ (by omega)]
    exact Int.ediv_le_self _ (by omega)
  have b2 : (s + 1 - h).fdiv g ≤ s + 1 - h := by
    rw [Int.fdiv_eq_ediv_of_nonneg _ (by omega)]
    exact Int.ediv_le_self _ (by omega)
  have b3 : 0 ≤ s.fdiv g := by
    rw [Int.fdiv_eq_ediv_of_nonneg _ (by omega)]
    exact Int.ediv_nonneg (by omega) (by omega)
  have b4 : 0 ≤ (s + 1 - h).fdiv g := by
    rw [Int.fdiv_eq_ediv_of_nonneg _ (by omega)]
    exact Int.ediv_nonneg (by omega) (by omega)
  have wi : ∀ i : Int, -20000 ≤ i → i ≤ 20000 → inW i = true := fun i h1 h2 => by
    unfold inW
    rw [decide_eq_true (show -18446744073709551616 < i by omega), decide_eq_true (show i < 18446744073709551616 by omega)]
    rfl
  have wa := wi _ (by omega) (show s.fdiv g ≤ 20000 by omega)
  have wb := wi _ (by omega) (show (s + 1 - h).fdiv g ≤ 20000 by omega)
  have w2 := wi 2 (by omega) (by omega)
  refine ⟨⟨by omega, by omega⟩, by decide, ?_⟩
  have fz : P.fit 2 (.tup [.int (s.fdiv g), .int ((s + 1 - h).fdiv g)]) = true := fit_tup 1 [s.fdiv g, (s + 1 - h).fdiv g] (by simp)
  have same2' := @same2 H Q k
  refine sat_mono (Q := fun d h' => d = .p (.bl true) ∧ h' = H) (same2 fz ⟨rfl, rfl⟩) ?_
  rintro _ _ ⟨rfl, rfl⟩
  simp [pr0, pr1, wb]
  refine bbound_sat s1 s2 h1 h2 ?_
  have hf := Bd_factor (f := f) (show 0 < s by omega) h1 (show h ≤ s by omega) f0
  have hp := le_parts g0 ea eb hf
  simp [wa, w2]
  rw [if_neg (by omega)]
  split
  · rename_i e
    have e' : s = 2 * h - 1 := by simpa [P.eqv] using e
    have := lt_parts g0 ea eb (show s < 2 * (s + 1 - h) by omega)
    simp [this, pr0, pr1, w2]
    exact q
  · rename_i e
    have e' : (P.int s).eqv (.int (2 * h - 1)) = false := Bool.eq_false_iff.mpr e
    simp [e']
    exact q
theorem right_sat {m : Nat} {w l : Int} (hm : seqAt H m = some [.p (.int s), .p (.int h), .p (.int f), .p (.int l)]) (s1 : 1 ≤ s) (s2 : s ≤ 9999) (h1 : 1 ≤ h) (h2 : h ≤ 9999) (f0 : 0 ≤ f) (l0 : 0 ≤ l) (q : Q (.p (.bl true)) H) :
    (F (k + 5) 17 [.p (.int w), .ref m] H).sat Q := by
  rw [show k + 5 = (k + 4) + 1 by omega, F_17]
  unfold fnG f_law_right
  simp only [startE, List.length_cons, List.length_nil, if_true]
  simp [w_gtupl hm, P.eqv, gcv_old (seq_lt hm)]
  split
  · exact boundR_sat (k := k + 2) s1 s2 h1 h2 (by simpa using q)
  · split
    · exact mostR_sat (k := k + 2) s1 s2 h1 h2 l0 (by simpa using q)
    · exact factorR_sat s1 s2 h1 h2 f0 (by simpa using q)
end
/-! what the law draws -/
structure Nm where
  s : Int
  h : Int
  f : Int
  l : Int
structure Nm.ok (N : Nm) : Prop where
  s1 : 1 ≤ N.s
  s2 : N.s ≤ 9999
  h1 : 1 ≤ N.h
  h2 : N.h ≤ 9999
  f0 : 0 ≤ N.f
  l0 : 0 ≤ N.l
def Nm.row (N : Nm) : List D := [.p (.int N.s), .p (.int N.h), .p (.int N.f), .p (.int N.l)]
section
variable {S : List Int} {T : Tp} {g : Hh} {Q : D → Hh → Prop} {k : Nat}
theorem numbers_sat (hT : 0 ≤ T.pos) (q : ∀ (N : Nm) (T' : Tp), N.ok → 0 ≤ T'.pos → Q (.ref (g.length + 3)) (hp S T' (g ++ [.lst N.row]))) : (F (k + 3) 12 [.ref 2] (hp S T g)).sat Q := by
  rw [show k + 3 = (k + 2) + 1 by omega, F_12]
  unfold fnG f_law_numbers
  simp only [startE, List.length_cons, List.length_nil, if_true]
  simp
  refine (drawF (k + 1)) S T _ _ _ hT (by omega) fun r T2 r0 r1 hT2 => ?_
  have ix : ∀ T l, idxD (.ref (g.length + 3)) (.p (.int (if r = 0 then 1 else 0))) (hp S T (g ++ .lst [.p (.int 9), .p (.int 9999)] :: l)) = .ok (.p (.int (if r = 0 then 9999 else 9))) (hp S T (g ++ .lst [.p (.int 9), .p (.int 9999)] :: l)) := fun T l => by
    refine idx_l hp_seq0 ?_
    split <;> rfl
  have b0 : (if r = 0 then (9999 : Int) else 9) ≤ 9999 := by split <;> omega
  have b1 : 9 ≤ (if r = 0 then (9999 : Int) else 9) := by split <;> omega
  generalize (if r = 0 then (9999 : Int) else 9) = c at ix b0 b1
  simp [hp_app, P.eqv, ix]
  refine ⟨by decide, ?_⟩
  refine (drawF (k + 1)) S T2 _ _ _ hT2 (by omega) fun s T3 s0 s1 hT3 => ?_
  simp [hp_app, ix]
  refine ⟨by decide, ?_⟩
  refine (drawF (k + 1)) S T3 _ _ _ hT3 (by omega) fun a T4 a0 a1 hT4 => ?_
  simp [hp_app]
  refine ⟨by decide, ?_⟩
  have ds : 0 ≤ (1 + s).fdiv 2 ∧ (1 + s).fdiv 2 * 2 ≤ 1 + s := by
    rw [Int.fdiv_eq_ediv_of_nonneg _ (by omega)]
    omega
  refine pickI (pickF k) (k := 0) (xs := [1 + a, 1 + a, 1, 1 + s, if 1 + s + 1 < 9999 then 1 + s + 1 else 9999, if 1 < 1 + s - 1 then 1 + s - 1 else 1, (1 + s).fdiv 2 + 1, if s < a then 1 + s else 1 + a]) hT4 (by omega) rfl (by simp) (by simp) fun h T5 hx hT5 => ?_
  have hh : 1 ≤ h ∧ h ≤ 9999 := by
    simp at hx
    rcases hx with rfl | rfl | rfl | rfl | rfl | rfl | rfl <;> first | omega | (split <;> omega)
  simp
  refine ⟨⟨by omega, by omega⟩, ?_⟩
  have dq : 0 ≤ Int.fdiv 9999 (1 + s) ∧ (1 + s) * Int.fdiv 9999 (1 + s) ≤ 9999 := by
    rw [Int.fdiv_eq_ediv_of_nonneg _ (by omega)]
    exact ⟨Int.ediv_nonneg (by omega) (by omega), Int.mul_ediv_self_le (by omega)⟩
  refine (drawF (k + 1)) S T5 _ _ _ hT5 (by have := Int.ediv_le_self (a := 9999) (1 + s) (by omega); rw [Int.fdiv_eq_ediv_of_nonneg _ (by omega)]; omega) fun n T6 n0 n1 hT6 => ?_
  have nn : 0 ≤ (1 + s) * n ∧ (1 + s) * n ≤ 9999 := by
    refine ⟨Int.mul_nonneg (by omega) n0, ?_⟩
    have := Int.mul_le_mul_of_nonneg_left (show n ≤ Int.fdiv 9999 (1 + s) by omega) (show 0 ≤ 1 + s by omega)
    omega
  have w1 : inW (1 + s) = true := by
    unfold inW
    rw [decide_eq_true (show -18446744073709551616 < 1 + s by omega), decide_eq_true (show 1 + s < 18446744073709551616 by omega)]
    rfl
  simp [w1]
  generalize (1 + s) * n = near at nn ⊢
  refine (drawF (k + 1)) S T6 _ _ _ hT6 (by omega) fun c1 T7 c10 c11 hT7 => ?_
  refine (drawF (k + 1)) S T7 _ _ _ hT7 (by omega) fun c2 T8 c20 c21 hT8 => ?_
  simp [hp_app]
  refine ⟨by decide, ?_⟩
  refine pickI (pickF k) (k := 0) (xs := [near, if near + 1 < 9999 then near + 1 else 9999, if 1 < near then near - 1 else 0, c1, c2, 0, 1 + s, if 1 + s + 1 < 9999 then 1 + s + 1 else 9999, 1 + s - 1]) hT8 (by omega) rfl (by simp) (by simp) fun f T9 hx hT9 => ?_
  have hf : 0 ≤ f := by
    simp at hx
    rcases hx with rfl | rfl | rfl | rfl | rfl | rfl | rfl | rfl | rfl <;> first | omega | (split <;> omega)
  simp
  refine bbound_sat (k := k + 1) (by omega) (by omega) hh.1 hh.2 ?_
  simp
  have bb := Bd_nonneg (s := 1 + s) (h := h) (f := f) (by omega) hh.1 hf
  generalize Bd (1 + s) h f = bd at bb ⊢
  refine (drawF (k + 1)) S T9 _ _ _ hT9 (by omega) fun c3 Ta c30 c31 hTa => ?_
  refine (drawF (k + 1)) S Ta _ _ _ hTa (by omega) fun c4 Tb c40 c41 hTb => ?_
  simp [hp_app]
  refine ⟨by decide, ?_⟩
  refine pickI (pickF k) (k := 0) (xs := [bd, if bd + 1 < 9999 then bd + 1 else 9999, if 1 < bd then bd - 1 else 0, c3, c4, 0, h, 1 + s, if 1 + s + 1 < 9999 then 1 + s + 1 else 9999]) hTb (by omega) rfl (by simp) (by simp) fun l Tc hx hTc => ?_
  have hl : 0 ≤ l := by
    simp at hx
    rcases hx with rfl | rfl | rfl | rfl | rfl | rfl | rfl | rfl | rfl <;> first | omega | (split <;> omega)
  simp [hp_app]
  refine ⟨by decide, ?_⟩
  rw [hp_gcv0 rfl]
  simp
  rw [hp_gcv0 rfl]
  exact q ⟨1 + s, h, f, l⟩ Tc ⟨by show 1 ≤ 1 + s; omega, by show 1 + s ≤ 9999; omega, hh.1, hh.2, hf, hl⟩ hTc
theorem changed_sat {N : Nm} {m : Nat} (ok : N.ok) (hT : 0 ≤ T.pos) (hm : seqAt (hp S T g) m = some N.row) (hm2 : m ≠ 2) (q : ∀ (N : Nm) (T' : Tp), N.ok → 0 ≤ T'.pos → Q (.ref (g.length + 3)) (hp S T' (g ++ [.lst N.row]))) : (F (k + 3) 13 [.ref 2, .ref m] (hp S T g)).sat Q := by
  rw [show k + 3 = (k + 2) + 1 by omega, F_13]
  unfold fnG f_law_changed
  simp only [startE, List.length_cons, List.length_nil, if_true]
  simp [o_listl hm, w_newL]
  refine ⟨by simp [Nm.row, szl], ?_⟩
  rw [hp_app, hp_gcv0 rfl]
  simp
  refine (drawF (k + 1)) S T _ _ _ hT (by omega) fun i T2 i0 i1 hT2 => ?_
  simp [hp_app]
  refine ⟨by decide, ?_⟩
  have hc : i = 0 ∨ i = 1 ∨ i = 2 ∨ i = 3 := by omega
  obtain ⟨s1, s2, h1, h2, f0, l0⟩ := ok
  have hb : ∀ T l, seqAt (hp S T (g ++ .lst N.row :: l)) (g.length + 3) = some N.row := fun T l => hp_seq0
  have hl : ∀ T l, lstAt (hp S T (g ++ .lst N.row :: l)) (g.length + 3) = some N.row := fun T l => hp_lstk (l := .lst N.row :: l) (k := 0) rfl
  have r0 : ∀ T l, idxD (.ref (g.length + 3)) (.p (.int 0)) (hp S T (g ++ .lst N.row :: l)) = .ok (.p (.int N.s)) (hp S T (g ++ .lst N.row :: l)) := fun T l => idx_l (hb T l) rfl
  have r1 : ∀ T l, idxD (.ref (g.length + 3)) (.p (.int 1)) (hp S T (g ++ .lst N.row :: l)) = .ok (.p (.int N.h)) (hp S T (g ++ .lst N.row :: l)) := fun T l => idx_l (hb T l) rfl
  have r2 : ∀ T l, idxD (.ref (g.length + 3)) (.p (.int 2)) (hp S T (g ++ .lst N.row :: l)) = .ok (.p (.int N.f)) (hp S T (g ++ .lst N.row :: l)) := fun T l => idx_l (hb T l) rfl
  have r3 : ∀ T l, idxD (.ref (g.length + 3)) (.p (.int 3)) (hp S T (g ++ .lst N.row :: l)) = .ok (.p (.int N.l)) (hp S T (g ++ .lst N.row :: l)) := fun T l => idx_l (hb T l) rfl
  have fin : ∀ (T3 : Tp) (l : Hh) (M : Nm), M.ok → 0 ≤ T3.pos → (gcv (g.length + 1 + 3) (.ref (g.length + 3)) (hp S T3 (g ++ [.lst M.row]))).sat fun d h => (gcv (g.length + 3) d h).sat Q := fun T3 l M ok hT3 => by
    rw [gcv_old (by omega)]
    simp
    rw [hp_gcv0 rfl]
    exact q M T3 ok hT3
  have pk : ∀ (i low e1 e2 : Int) (M : Int → Nm), 0 ≤ low → low ≤ 1 → low ≤ e1 → low ≤ e2 → e1 ≤ 9999 → (∀ T v, setD (.ref (g.length + 3)) (.p (.int i)) (.p (.int v)) (hp S T (g ++ [.lst N.row])) = .ok () (hp S T (g ++ [.lst (M v).row]))) → (∀ v, low ≤ v → v ≤ max 9999 e2 → (M v).ok) →
      (F (k + 2) 4 [.ref 2, .p (.int 60)] (hp S T2 (g ++ [.lst N.row]))).sat fun y h2 => (bopD .add (.p (.int low)) y h2).sat fun d h1 => (idxD (.ref (g.length + 3)) (.p (.int 0)) h1).sat fun d_1 h1 => (bltD .min2 [.p (.int 9999), d_1] h1).sat fun d_2 h1 =>
        4 ≤ szl ∧ (F (k + 2) 5 [.ref 2, .ref h1.length] (h1 ++ [.lst [.p (.int e1), .p (.int e2), d, d_2]])).sat fun d h' => (gcv (g.length + 1 + 3) d h').sat fun d h1 => (setD (.ref (g.length + 3)) (.p (.int i)) d h1).sat fun x h3 => (gcv h3.length (.ref (g.length + 3)) h3).sat fun d h => (gcv (g.length + 3) d h).sat Q := by
    intro i low e1 e2 M l1 l2 l3 l4 l5 hset hM
    refine (drawF (k + 1)) S T2 _ _ _ hT2 (by omega) fun c T3 c0 c1 hT3 => ?_
    simp [r0, hp_app]
    refine ⟨by decide, ?_⟩
    refine pickI (pickF k) (k := 1) (xs := [e1, e2, low + c, if N.s < 9999 then N.s else 9999]) hT3 (by omega) rfl (by simp) (by simp) fun v T4 hv hT4 => ?_
    have hvb : low ≤ v ∧ v ≤ max 9999 e2 := by
      simp at hv
      rcases hv with rfl | rfl | rfl | rfl
      · omega
      · omega
      · omega
      · split <;> omega
    simp [hset]
    exact fin T4 [] (M v) (hM v hvb.1 hvb.2) hT4
  rcases hc with rfl | rfl | rfl | rfl
  · rw [o_idxl hp_seq01 (x := .p (.int 1)) rfl]
    simp [r0]
    refine pk 0 1 _ _ (fun v => ⟨v, N.h, N.f, N.l⟩) (by omega) (by omega) (by split <;> omega) (by split <;> omega) (by split <;> omega) (fun T v => hp_set0 (j := 0) rfl rfl) (fun v v0 v1 => ⟨v0, ?_, h1, h2, f0, l0⟩)
    have : (if 1 < N.s - 1 then N.s - 1 else 1) ≤ 9999 := by split <;> omega
    show v ≤ 9999
    omega
  · rw [o_idxl hp_seq01 (x := .p (.int 1)) rfl]
    simp [r1]
    refine pk 1 1 _ _ (fun v => ⟨N.s, v, N.f, N.l⟩) (by omega) (by omega) (by split <;> omega) (by split <;> omega) (by split <;> omega) (fun T v => hp_set0 (j := 1) rfl rfl) (fun v v0 v1 => ⟨s1, s2, v0, ?_, f0, l0⟩)
    have : (if 1 < N.h - 1 then N.h - 1 else 1) ≤ 9999 := by split <;> omega
    show v ≤ 9999
    omega
  · rw [o_idxl hp_seq01 (x := .p (.int 0)) rfl]
    simp [r2]
    exact pk 2 0 _ _ (fun v => ⟨N.s, N.h, v, N.l⟩) (by omega) (by omega) (by split <;> omega) (by split <;> omega) (by split <;> omega) (fun T v => hp_set0 (j := 2) rfl rfl) (fun v v0 v1 => ⟨s1, s2, h1, h2, v0, l0⟩)
  · rw [o_idxl hp_seq01 (x := .p (.int 0)) rfl]
    simp [r3]
    exact pk 3 0 _ _ (fun v => ⟨N.s, N.h, N.f, v⟩) (by omega) (by omega) (by split <;> omega) (by split <;> omega) (by split <;> omega) (fun T v => hp_set0 (j := 3) rfl rfl) (fun v v0 v1 => ⟨s1, s2, h1, h2, f0, v0⟩)
end
end MP.K33
end

section
set_option autoImplicit false
set_option linter.all false
set_option maxRecDepth 20000
/-! K33Tape: the law's run. -/
namespace MP.K33
open MP
section
variable {S : List Int} {Q : D → Hh → Prop} {k : Nat}
theorem law_sat (hS : S.length ≤ 63) (q : ∀ h, Q (.p (.bl true)) h) : (F (k + 6) 18 [.ref 0] [.rol (izs S)]).sat Q := by
  rw [show k + 6 = (k + 5) + 1 by omega, F_18]
  unfold fnG f_law
  simp only [startE, List.length_cons, List.length_nil, if_true]
  simp
  rw [show k + 5 = (k + 4) + 1 by omega, F_3]
  refine tape_sat hS fun T hT => ?_
  have e0 : gcv 1 (.ref 2) (hp S T []) = .ok (.ref 2) (hp S T []) := rfl
  rw [e0]
  obtain ⟨g, hg⟩ : ∃ g : Hh, hp S T [] = hp S T g := ⟨[], rfl⟩
  rw [hg]
  simp [rgOk_of (Int.le_refl 0) (show (4 : Int) ≤ 1000000 by omega) (by omega) (by omega), wipe]
  refine w_lcg (rgL 0 4) (fun i acc h => ∃ (T' : Tp) (Ns : List Nm), h = hp S T' (g ++ Ns.map fun N => .lst N.row) ∧ Ns.length = i ∧ (∀ N ∈ Ns, N.ok) ∧ 0 ≤ T'.pos ∧ acc = (List.range i).map fun j => .ref (g.length + j + 3)) (by rw [rg_len]; exact Nat.le_refl _) ⟨T, [], by simp, rfl, by simp, hT, rfl⟩ (fun i acc h' _ _ => rg_get _ _ _ _) ?_ ?_
  · rintro i x acc h hx ⟨T', Ns, rfl, hl, hok, hT', rfl⟩
    obtain ⟨hi, rfl⟩ := rg_item hx
    simp [myes]
    refine numbers_sat (k := k + 2) hT' fun N T2 okN hT2 => ?_
    simp
    rw [hp_gcvB (l1 := Ns.map fun N => .lst N.row) (l := [.lst N.row]) (k := 0) (by simp) rfl rfl rfl]
    subst hl
    refine ⟨by simp at hi; unfold szl; omega, T2, Ns ++ [N], by simp, by simp, ?_, hT2, by simp [List.range_succ]⟩
    intro M hM
    rcases List.mem_append.mp hM with z | z
    · exact hok M z
    · rw [List.mem_singleton.mp z]; exact okN
  · rintro acc h ⟨T', Ns, rfl, hl, hok, hT', rfl⟩
    have h4 : (rgL 0 4).length = 4 := rg_len 0 4
    rw [h4] at hl ⊢
    have hk := gcv_keep (h := hp S T' (g ++ Ns.map fun N => .lst N.row) ++ [.lst ((List.range 4).map fun j => .ref (g.length + j + 3))]) (n := g.length + 3) (m := (hp S T' (g ++ Ns.map fun N => .lst N.row)).length) (c := .lst ((List.range 4).map fun j => .ref (g.length + j + 3))) (by simp) (by have := get_at (hp S T' (g ++ Ns.map fun N => .lst N.row)) [.lst ((List.range 4).map fun j => .ref (g.length + j + 3))] 0; simpa using this) (by simp [Cell.below, Cell.items, D.below, List.range_succ])
    rw [hk, sat_ok]
    have A1 : ∀ T l, seqAt (hp S T (g ++ (Ns.map fun N => Cell.lst N.row) ++ [.lst ((List.range 4).map fun j => .ref (g.length + j + 3))] ++ l)) (g.length + Ns.length + 3) = some ((List.range 4).map fun j => .ref (g.length + j + 3)) := fun T l => by
      have := hp_seqk (S := S) (T := T) (g := g) (l := (Ns.map fun N => Cell.lst N.row) ++ .lst ((List.range 4).map fun j => .ref (g.length + j + 3)) :: l) (k := Ns.length) (c := .lst ((List.range 4).map fun j => .ref (g.length + j + 3))) (by rw [List.getElem?_append_right (by simp)]; simp)
      simpa [Cell.items] using this
    have A2 : ∀ d ∈ ((List.range 4).map fun j => D.ref (g.length + j + 3)), ∃ (m : Nat) (N : Nm), d = .ref m ∧ N.ok ∧ m ≠ 2 ∧ ∀ T l, seqAt (hp S T (g ++ (Ns.map fun N => Cell.lst N.row) ++ [.lst ((List.range 4).map fun j => .ref (g.length + j + 3))] ++ l)) m = some N.row := fun d hd => by
      obtain ⟨j, hj, rfl⟩ := List.mem_map.mp hd
      have hj' : j < Ns.length := by rw [hl]; exact List.mem_range.mp hj
      refine ⟨_, Ns[j], rfl, hok _ (List.getElem_mem hj'), by omega, fun T l => ?_⟩
      have := hp_seqk (S := S) (T := T) (g := g) (l := (Ns.map fun N => Cell.lst N.row) ++ .lst ((List.range 4).map fun j => .ref (g.length + j + 3)) :: l) (k := j) (c := .lst Ns[j].row) (by rw [List.getElem?_append_left (by simpa using hj')]; simp [hj'])
      simpa [Cell.items] using this
    have hl2 : (hp S T' (g ++ Ns.map fun N => Cell.lst N.row)).length = g.length + Ns.length + 3 := by simp
    have hg1 : hp S T' (g ++ Ns.map fun N => Cell.lst N.row) ++ [.lst ((List.range 4).map fun j => .ref (g.length + j + 3))] = hp S T' (g ++ (Ns.map fun N => Cell.lst N.row) ++ [.lst ((List.range 4).map fun j => .ref (g.length + j + 3))] ++ []) := by simp [hp_app]
    rw [hg1, hl2]
    generalize g ++ (Ns.map fun N => Cell.lst N.row) ++ [.lst ((List.range 4).map fun j => .ref (g.length + j + 3))] = g1 at A1 A2 ⊢
    generalize ((List.range 4).map fun j => D.ref (g.length + j + 3)) = acc at A1 A2
    generalize g.length + Ns.length + 3 = ml at A1 ⊢
    simp only [A1]
    refine w_fo acc (fun i ρ h => ∃ (T' : Tp) (l : Hh) (v3 v4 v5 : Option D), ρ = [some (.ref 0), some (.ref 2), some (.ref ml), v3, v4, v5, none] ∧ h = hp S T' (g1 ++ l) ∧ 0 ≤ T'.pos) (by simp [srcRef]) ⟨T', [], none, none, none, rfl, rfl, hT'⟩ ?_ ?_ ?_
    · rintro i ρ h hi ⟨T', l, v3, v4, v5, rfl, rfl, _⟩
      simp [srcRef, A1]
    · rintro i x ρ h hx ⟨T2, l, v3, v4, v5, rfl, rfl, hT2⟩
      obtain ⟨m, N, rfl, ok, hm2, hm⟩ := A2 x (List.mem_of_getElem? hx)
      obtain ⟨g2, eg⟩ : ∃ g2 : Hh, g1 ++ l = g2 := ⟨_, rfl⟩
      have hm' : ∀ T l', seqAt (hp S T (g2 ++ l')) m = some N.row := fun T l' => by rw [← eg, List.append_assoc]; exact hm T _
      have hm0 := hm T2 l
      rw [eg] at hm0 ⊢
      have hle : g1.length ≤ g2.length := by rw [← eg]; simp
      simp
      refine changed_sat (k := k + 2) ok hT2 hm0 hm2 fun C T3 okC hT3 => ?_
      rw [hp_gcv0 rfl]
      simp
      refine turnsF (k + 2) S T3 _ _ _ hT3 (by omega) (by omega) fun es T4 hes hel hT4 => ?_
      have sq : seqAt (hp S T4 (g2 ++ [.lst C.row, .lst es])) (g2.length + 1 + 3) = some es := hp_seq01
      simp [hp_app, sq]
      refine w_fo es (fun i ρ h => ∃ v5 : Option D, ρ = [some (.ref 0), some (.ref 2), some (.ref ml), some (.ref m), some (.ref (g2.length + 3)), v5, none] ∧ h = hp S T4 (g2 ++ [.lst C.row, .lst es])) (by simp [srcRef]) ⟨v5, rfl, rfl⟩ ?_ ?_ ?_
      · rintro j ρ h hj ⟨v5, rfl, rfl⟩
        simp [srcRef, sq]
      · rintro j x ρ h hx ⟨v5, rfl, rfl⟩
        obtain ⟨w, rfl, _, _⟩ := hes x (List.mem_of_getElem? hx)
        simp
        refine right_sat (k := k) (hm' T4 _) ok.s1 ok.s2 ok.h1 ok.h2 ok.f0 ok.l0 ?_
        simp
        exact List.take_of_length_le (by simp)
      · rintro ρ h ⟨v5, rfl, rfl⟩
        have ee : g2 ++ [Cell.lst C.row, .lst es] = (g2 ++ [.lst C.row]) ++ [.lst es] := by simp
        obtain ⟨l', el⟩ := gce_ex (S := S) (T := T4) (g := g2 ++ [.lst C.row]) (l := [.lst es]) (n := g2.length + 1 + 3) (ρ := [some (.ref 0), some (.ref 2), some (.ref ml), some (.ref m), some (.ref (g2.length + 3)), v5, none]) (by simp)
        rw [ee, el]
        have c0 : ∀ T l, seqAt (hp S T (g2 ++ .lst C.row :: l)) (g2.length + 3) = some C.row := fun T l => hp_seq0
        have e3 : g2 ++ [Cell.lst C.row] ++ l' = g2 ++ .lst C.row :: l' := by simp
        rw [e3]
        refine ⟨by decide, w_fo (rgL 0 3) (fun i ρ h => ∃ v5 : Option D, ρ = [some (.ref 0), some (.ref 2), some (.ref ml), some (.ref m), some (.ref (g2.length + 3)), v5, none] ∧ h = hp S T4 (g2 ++ .lst C.row :: l')) (by rw [rg_len]; exact Nat.le_refl _) ⟨v5, rfl, rfl⟩ (fun i ρ h' _ _ => rg_get _ _ _ _) ?_ ?_⟩
        · rintro j x ρ h hx ⟨v5, rfl, rfl⟩
          obtain ⟨_, rfl⟩ := rg_item hx
          simp
          refine right_sat (k := k) (c0 T4 _) okC.s1 okC.s2 okC.h1 okC.h2 okC.f0 okC.l0 ?_
          simp
          refine right_sat (k := k) (hm' T4 _) ok.s1 ok.s2 ok.h1 ok.h2 ok.f0 ok.l0 ?_
          simp
          exact List.take_of_length_le (by simp)
        · rintro ρ h ⟨v5, rfl, rfl⟩
          obtain ⟨l'', el''⟩ := gce_ex (S := S) (T := T4) (g := g2) (l := .lst C.row :: l') (n := (hp S T4 (g2 ++ .lst C.row :: l')).length) (ρ := [some (.ref 0), some (.ref 2), some (.ref ml), some (.ref m), some (.ref (g2.length + 3)), v5, none]) (by simp)
          refine ⟨⟨_, _, _, rfl⟩, T4, ⟨l ++ l'', ?_⟩, hT4⟩
          rw [el'', ← eg, List.append_assoc]
    · rintro ρ h ⟨T2, l, v3, v4, v5, rfl, rfl, hT2⟩
      obtain ⟨l', el⟩ := gce_ex (S := S) (T := T2) (g := g1) (l := l) (n := (hp S T' (g1 ++ [])).length) (ρ := [some (.ref 0), some (.ref 2), some (.ref ml), v3, v4, v5, none]) (by simp)
      simp at el
      simp [el, A1]
      refine w_fo acc (fun i ρ h => ∃ (l : Hh) (v3 v4 v5 : Option D), ρ = [some (.ref 0), some (.ref 2), some (.ref ml), v3, v4, v5, none] ∧ h = hp S T2 (g1 ++ l)) (by simp [srcRef]) ⟨_, _, _, _, rfl, rfl⟩ ?_ ?_ ?_
      · rintro i ρ h hi ⟨l, v3, v4, v5, rfl, rfl⟩
        simp [srcRef, A1]
      · rintro i x ρ h hx ⟨l, v3, v4, v5, rfl, rfl⟩
        obtain ⟨m, N, rfl, ok, hm2, hm⟩ := A2 x (List.mem_of_getElem? hx)
        simp
        refine ⟨by decide, w_fo (rgL 0 3) (fun i ρ h => ∃ v5 : Option D, ρ = [some (.ref 0), some (.ref 2), some (.ref ml), some (.ref m), v4, v5, none] ∧ h = hp S T2 (g1 ++ l)) (by rw [rg_len]; exact Nat.le_refl _) ⟨v5, rfl, rfl⟩ (fun i ρ h' _ _ => rg_get _ _ _ _) ?_ ?_⟩
        · rintro j x ρ h hx ⟨v5, rfl, rfl⟩
          obtain ⟨_, rfl⟩ := rg_item hx
          simp
          refine right_sat (k := k) (hm T2 _) ok.s1 ok.s2 ok.h1 ok.h2 ok.f0 ok.l0 ?_
          simp
          exact List.take_of_length_le (by simp)
        · rintro ρ h ⟨v5, rfl, rfl⟩
          obtain ⟨l'', el''⟩ := gce_ex (S := S) (T := T2) (g := g1) (l := l) (n := (hp S T2 (g1 ++ l)).length) (ρ := [some (.ref 0), some (.ref 2), some (.ref ml), some (.ref m), v4, v5, none]) (by simp)
          exact ⟨⟨_, _, _, rfl⟩, l'', by simpa using el''⟩
      · rintro ρ h ⟨l, v3, v4, v5, rfl, rfl⟩
        exact q _
end
end MP.K33
end

section
set_option linter.all false
set_option Elab.async false
set_option maxRecDepth 100000
set_option maxHeartbeats 8000000
namespace MP.K33
open PySem PySem.Spec PyProof.Rows L2
theorem all_mk {l : PySem.W.OpenLaw} {w : World} {K : PySem.W.Frag} {h : Heap} {mg : Str → Option Value} {fa : Addr} (X : K.In h) (G : h.Ns mainGlobals mg) (hfa : mg "law" = some (.ref fa))
    {f0 : Addr} {od0 an0 : Option Addr} {sl0 : Array (Option Value)} {oc0 kV0 dc0 pm0 cd0 ct0 : Value}
    (a0 : PySem.W.nsIn K mainGlobals "bound_of" = some (some (.ref f0))) (l0 : K.lookup f0 = some ⟨oc0, od0, .func (PySem.W.fnOf "bound_of" "bound_of" (defArgs (at_ 2)) (defBody (at_ 2)) (defScope (at_ 2)) .none kV0 dc0 pm0 an0 cd0 ct0), sl0⟩)
    (e0 : PySem.W.codeIn K cd0 "bound_of" = true) (k0 : PySem.W.keepIn K (.ref f0) = true)
    {f1 : Addr} {od1 an1 : Option Addr} {sl1 : Array (Option Value)} {oc1 kV1 dc1 pm1 cd1 ct1 : Value}
    (a1 : PySem.W.nsIn K mainGlobals "most_fills" = some (some (.ref f1))) (l1 : K.lookup f1 = some ⟨oc1, od1, .func (PySem.W.fnOf "most_fills" "most_fills" (defArgs (at_ 3)) (defBody (at_ 3)) (defScope (at_ 3)) .none kV1 dc1 pm1 an1 cd1 ct1), sl1⟩)
    (e1 : PySem.W.codeIn K cd1 "most_fills" = true) (k1 : PySem.W.keepIn K (.ref f1) = true)
    {f2 : Addr} {od2 an2 : Option Addr} {sl2 : Array (Option Value)} {oc2 kV2 dc2 pm2 cd2 ct2 : Value}
    (a2 : PySem.W.nsIn K mainGlobals "factor_of" = some (some (.ref f2))) (l2 : K.lookup f2 = some ⟨oc2, od2, .func (PySem.W.fnOf "factor_of" "factor_of" (defArgs (at_ 4)) (defBody (at_ 4)) (defScope (at_ 4)) .none kV2 dc2 pm2 an2 cd2 ct2), sl2⟩)
    (e2 : PySem.W.codeIn K cd2 "factor_of" = true) (k2 : PySem.W.keepIn K (.ref f2) = true)
    {f3 : Addr} {od3 an3 : Option Addr} {sl3 : Array (Option Value)} {oc3 kV3 dc3 pm3 cd3 ct3 : Value}
    (a3 : PySem.W.nsIn K mainGlobals "_law_tape" = some (some (.ref f3))) (l3 : K.lookup f3 = some ⟨oc3, od3, .func (PySem.W.fnOf "_law_tape" "_law_tape" (defArgs (at_ 6)) (defBody (at_ 6)) (defScope (at_ 6)) .none kV3 dc3 pm3 an3 cd3 ct3), sl3⟩)
    (e3 : PySem.W.codeIn K cd3 "_law_tape" = true) (k3 : PySem.W.keepIn K (.ref f3) = true)
    {f4 : Addr} {od4 an4 : Option Addr} {sl4 : Array (Option Value)} {oc4 kV4 dc4 pm4 cd4 ct4 : Value}
    (a4 : PySem.W.nsIn K mainGlobals "_law_draw" = some (some (.ref f4))) (l4 : K.lookup f4 = some ⟨oc4, od4, .func (PySem.W.fnOf "_law_draw" "_law_draw" (defArgs (at_ 7)) (defBody (at_ 7)) (defScope (at_ 7)) .none kV4 dc4 pm4 an4 cd4 ct4), sl4⟩)
    (e4 : PySem.W.codeIn K cd4 "_law_draw" = true) (k4 : PySem.W.keepIn K (.ref f4) = true)
    {f5 : Addr} {od5 an5 : Option Addr} {sl5 : Array (Option Value)} {oc5 kV5 dc5 pm5 cd5 ct5 : Value}
    (a5 : PySem.W.nsIn K mainGlobals "_law_pick" = some (some (.ref f5))) (l5 : K.lookup f5 = some ⟨oc5, od5, .func (PySem.W.fnOf "_law_pick" "_law_pick" (defArgs (at_ 8)) (defBody (at_ 8)) (defScope (at_ 8)) .none kV5 dc5 pm5 an5 cd5 ct5), sl5⟩)
    (e5 : PySem.W.codeIn K cd5 "_law_pick" = true) (k5 : PySem.W.keepIn K (.ref f5) = true)
    {f6 : Addr} {od6 an6 : Option Addr} {sl6 : Array (Option Value)} {oc6 kV6 dc6 pm6 cd6 ct6 : Value}
    (a6 : PySem.W.nsIn K mainGlobals "_law_shuffled" = some (some (.ref f6))) (l6 : K.lookup f6 = some ⟨oc6, od6, .func (PySem.W.fnOf "_law_shuffled" "_law_shuffled" (defArgs (at_ 9)) (defBody (at_ 9)) (defScope (at_ 9)) .none kV6 dc6 pm6 an6 cd6 ct6), sl6⟩)
    (e6 : PySem.W.codeIn K cd6 "_law_shuffled" = true) (k6 : PySem.W.keepIn K (.ref f6) = true)
    {f7 : Addr} {od7 an7 : Option Addr} {sl7 : Array (Option Value)} {oc7 kV7 dc7 pm7 cd7 ct7 : Value}
    (a7 : PySem.W.nsIn K mainGlobals "_law_turns" = some (some (.ref f7))) (l7 : K.lookup f7 = some ⟨oc7, od7, .func (PySem.W.fnOf "_law_turns" "_law_turns" (defArgs (at_ 10)) (defBody (at_ 10)) (defScope (at_ 10)) .none kV7 dc7 pm7 an7 cd7 ct7), sl7⟩)
    (e7 : PySem.W.codeIn K cd7 "_law_turns" = true) (k7 : PySem.W.keepIn K (.ref f7) = true)
    {f8 : Addr} {od8 an8 : Option Addr} {sl8 : Array (Option Value)} {oc8 kV8 dc8 pm8 cd8 ct8 : Value}
    (a8 : PySem.W.nsIn K mainGlobals "_law_whole" = some (some (.ref f8))) (l8 : K.lookup f8 = some ⟨oc8, od8, .func (PySem.W.fnOf "_law_whole" "_law_whole" (defArgs (at_ 11)) (defBody (at_ 11)) (defScope (at_ 11)) .none kV8 dc8 pm8 an8 cd8 ct8), sl8⟩)
    (e8 : PySem.W.codeIn K cd8 "_law_whole" = true) (k8 : PySem.W.keepIn K (.ref f8) = true)
    {f9 : Addr} {od9 an9 : Option Addr} {sl9 : Array (Option Value)} {oc9 kV9 dc9 pm9 cd9 ct9 : Value}
    (a9 : PySem.W.nsIn K mainGlobals "_law_same" = some (some (.ref f9))) (l9 : K.lookup f9 = some ⟨oc9, od9, .func (PySem.W.fnOf "_law_same" "_law_same" (defArgs (at_ 12)) (defBody (at_ 12)) (defScope (at_ 12)) .none kV9 dc9 pm9 an9 cd9 ct9), sl9⟩)
    (e9 : PySem.W.codeIn K cd9 "_law_same" = true) (k9 : PySem.W.keepIn K (.ref f9) = true)
    {f10 : Addr} {od10 an10 : Option Addr} {sl10 : Array (Option Value)} {oc10 kV10 dc10 pm10 cd10 ct10 : Value}
    (a10 : PySem.W.nsIn K mainGlobals "_law_b_bound" = some (some (.ref f10))) (l10 : K.lookup f10 = some ⟨oc10, od10, .func (PySem.W.fnOf "_law_b_bound" "_law_b_bound" (defArgs (at_ 13)) (defBody (at_ 13)) (defScope (at_ 13)) .none kV10 dc10 pm10 an10 cd10 ct10), sl10⟩)
    (e10 : PySem.W.codeIn K cd10 "_law_b_bound" = true) (k10 : PySem.W.keepIn K (.ref f10) = true)
    {f11 : Addr} {od11 an11 : Option Addr} {sl11 : Array (Option Value)} {oc11 kV11 dc11 pm11 cd11 ct11 : Value}
    (a11 : PySem.W.nsIn K mainGlobals "_law_gcd" = some (some (.ref f11))) (l11 : K.lookup f11 = some ⟨oc11, od11, .func (PySem.W.fnOf "_law_gcd" "_law_gcd" (defArgs (at_ 14)) (defBody (at_ 14)) (defScope (at_ 14)) .none kV11 dc11 pm11 an11 cd11 ct11), sl11⟩)
    (e11 : PySem.W.codeIn K cd11 "_law_gcd" = true) (k11 : PySem.W.keepIn K (.ref f11) = true)
    {f12 : Addr} {od12 an12 : Option Addr} {sl12 : Array (Option Value)} {oc12 kV12 dc12 pm12 cd12 ct12 : Value}
    (a12 : PySem.W.nsIn K mainGlobals "_law_numbers" = some (some (.ref f12))) (l12 : K.lookup f12 = some ⟨oc12, od12, .func (PySem.W.fnOf "_law_numbers" "_law_numbers" (defArgs (at_ 15)) (defBody (at_ 15)) (defScope (at_ 15)) .none kV12 dc12 pm12 an12 cd12 ct12), sl12⟩)
    (e12 : PySem.W.codeIn K cd12 "_law_numbers" = true) (k12 : PySem.W.keepIn K (.ref f12) = true)
    {f13 : Addr} {od13 an13 : Option Addr} {sl13 : Array (Option Value)} {oc13 kV13 dc13 pm13 cd13 ct13 : Value}
    (a13 : PySem.W.nsIn K mainGlobals "_law_changed" = some (some (.ref f13))) (l13 : K.lookup f13 = some ⟨oc13, od13, .func (PySem.W.fnOf "_law_changed" "_law_changed" (defArgs (at_ 16)) (defBody (at_ 16)) (defScope (at_ 16)) .none kV13 dc13 pm13 an13 cd13 ct13), sl13⟩)
    (e13 : PySem.W.codeIn K cd13 "_law_changed" = true) (k13 : PySem.W.keepIn K (.ref f13) = true)
    {f14 : Addr} {od14 an14 : Option Addr} {sl14 : Array (Option Value)} {oc14 kV14 dc14 pm14 cd14 ct14 : Value}
    (a14 : PySem.W.nsIn K mainGlobals "_law_bound_right" = some (some (.ref f14))) (l14 : K.lookup f14 = some ⟨oc14, od14, .func (PySem.W.fnOf "_law_bound_right" "_law_bound_right" (defArgs (at_ 17)) (defBody (at_ 17)) (defScope (at_ 17)) .none kV14 dc14 pm14 an14 cd14 ct14), sl14⟩)
    (e14 : PySem.W.codeIn K cd14 "_law_bound_right" = true) (k14 : PySem.W.keepIn K (.ref f14) = true)
    {f15 : Addr} {od15 an15 : Option Addr} {sl15 : Array (Option Value)} {oc15 kV15 dc15 pm15 cd15 ct15 : Value}
    (a15 : PySem.W.nsIn K mainGlobals "_law_most_right" = some (some (.ref f15))) (l15 : K.lookup f15 = some ⟨oc15, od15, .func (PySem.W.fnOf "_law_most_right" "_law_most_right" (defArgs (at_ 18)) (defBody (at_ 18)) (defScope (at_ 18)) .none kV15 dc15 pm15 an15 cd15 ct15), sl15⟩)
    (e15 : PySem.W.codeIn K cd15 "_law_most_right" = true) (k15 : PySem.W.keepIn K (.ref f15) = true)
    {f16 : Addr} {od16 an16 : Option Addr} {sl16 : Array (Option Value)} {oc16 kV16 dc16 pm16 cd16 ct16 : Value}
    (a16 : PySem.W.nsIn K mainGlobals "_law_factor_right" = some (some (.ref f16))) (l16 : K.lookup f16 = some ⟨oc16, od16, .func (PySem.W.fnOf "_law_factor_right" "_law_factor_right" (defArgs (at_ 19)) (defBody (at_ 19)) (defScope (at_ 19)) .none kV16 dc16 pm16 an16 cd16 ct16), sl16⟩)
    (e16 : PySem.W.codeIn K cd16 "_law_factor_right" = true) (k16 : PySem.W.keepIn K (.ref f16) = true)
    {f17 : Addr} {od17 an17 : Option Addr} {sl17 : Array (Option Value)} {oc17 kV17 dc17 pm17 cd17 ct17 : Value}
    (a17 : PySem.W.nsIn K mainGlobals "_law_right" = some (some (.ref f17))) (l17 : K.lookup f17 = some ⟨oc17, od17, .func (PySem.W.fnOf "_law_right" "_law_right" (defArgs (at_ 20)) (defBody (at_ 20)) (defScope (at_ 20)) .none kV17 dc17 pm17 an17 cd17 ct17), sl17⟩)
    (e17 : PySem.W.codeIn K cd17 "_law_right" = true) (k17 : PySem.W.keepIn K (.ref f17) = true)
    {f18 : Addr} {od18 an18 : Option Addr} {sl18 : Array (Option Value)} {oc18 kV18 dc18 pm18 cd18 ct18 : Value}
    (a18 : PySem.W.nsIn K mainGlobals "law" = some (some (.ref f18))) (l18 : K.lookup f18 = some ⟨oc18, od18, .func (PySem.W.fnOf "law" "law" (defArgs (at_ 21)) (defBody (at_ 21)) (defScope (at_ 21)) .none kV18 dc18 pm18 an18 cd18 ct18), sl18⟩)
    (e18 : PySem.W.codeIn K cd18 "law" = true) (k18 : PySem.W.keepIn K (.ref f18) = true)
    (a19 : PySem.W.nsIn K mainGlobals "gcd" = some (some (.builtin "math.gcd")))
    (z0 : PySem.W.nsIn K mainGlobals "len" = some none)
    (z1 : PySem.W.nsIn K mainGlobals "abs" = some none)
    (z2 : PySem.W.nsIn K mainGlobals "min" = some none)
    (z3 : PySem.W.nsIn K mainGlobals "max" = some none)
    (z4 : PySem.W.nsIn K mainGlobals "int" = some none)
    (z5 : PySem.W.nsIn K mainGlobals "list" = some none)
    (z6 : PySem.W.nsIn K mainGlobals "tuple" = some none)
    (z7 : PySem.W.nsIn K mainGlobals "isinstance" = some none)
    (z8 : PySem.W.nsIn K mainGlobals "range" = some none)
    (z9 : PySem.W.nsIn K mainGlobals "str" = some none)
    (z10 : PySem.W.nsIn K mainGlobals "bool" = some none)
    : ∃ fd : FuncData, (∀ (s : Shared) (v : Value), BindsTo s fd ⟨[v], []⟩ [("script", v)]) ∧ ∀ base : Heap, K.In base → base.Ns mainGlobals mg → FnOk l.prog w K mg base CX0 200 fa fd ["script"] (SpF K 1 (runF (fnsOf defs) 200 18)) := by
  have e := hfa.symm.trans (PySem.W.mg_of X G a18)
  cases e
  have F0 := fun_mk (st := at_ 2) l0 e0 k0
  have b0 := F0.binds (ps := ["size", "h", "fills"]) fun _ _ _ _ _ _ us hl => match us, hl with | [_, _, _], _ => rfl
  have D0 : DefF K mg d0 _ _ := ⟨F0, PySem.W.mg_of X G a0, b0⟩
  have F1 := fun_mk (st := at_ 3) l1 e1 k1
  have b1 := F1.binds (ps := ["size", "h", "least"]) fun _ _ _ _ _ _ us hl => match us, hl with | [_, _, _], _ => rfl
  have D1 : DefF K mg d1 _ _ := ⟨F1, PySem.W.mg_of X G a1, b1⟩
  have F2 := fun_mk (st := at_ 4) l2 e2 k2
  have b2 := F2.binds (ps := ["size", "h"]) fun _ _ _ _ _ _ us hl => match us, hl with | [_, _], _ => rfl
  have D2 : DefF K mg d2 _ _ := ⟨F2, PySem.W.mg_of X G a2, b2⟩
  have F3 := fun_mk (st := at_ 6) l3 e3 k3
  have b3 := F3.binds (ps := ["script"]) fun _ _ _ _ _ _ us hl => match us, hl with | [_], _ => rfl
  have D3 : DefF K mg d3 _ _ := ⟨F3, PySem.W.mg_of X G a3, b3⟩
  have F4 := fun_mk (st := at_ 7) l4 e4 k4
  have b4 := F4.binds (ps := ["tape", "many"]) fun _ _ _ _ _ _ us hl => match us, hl with | [_, _], _ => rfl
  have D4 : DefF K mg d4 _ _ := ⟨F4, PySem.W.mg_of X G a4, b4⟩
  have F5 := fun_mk (st := at_ 8) l5 e5 k5
  have b5 := F5.binds (ps := ["tape", "menu"]) fun _ _ _ _ _ _ us hl => match us, hl with | [_, _], _ => rfl
  have D5 : DefF K mg d5 _ _ := ⟨F5, PySem.W.mg_of X G a5, b5⟩
  have F6 := fun_mk (st := at_ 9) l6 e6 k6
  have b6 := F6.binds (ps := ["tape", "menu"]) fun _ _ _ _ _ _ us hl => match us, hl with | [_, _], _ => rfl
  have D6 : DefF K mg d6 _ _ := ⟨F6, PySem.W.mg_of X G a6, b6⟩
  have F7 := fun_mk (st := at_ 10) l7 e7 k7
  have b7 := F7.binds (ps := ["tape", "many"]) fun _ _ _ _ _ _ us hl => match us, hl with | [_, _], _ => rfl
  have D7 : DefF K mg d7 _ _ := ⟨F7, PySem.W.mg_of X G a7, b7⟩
  have F8 := fun_mk (st := at_ 11) l8 e8 k8
  have b8 := F8.binds (ps := ["told"]) fun _ _ _ _ _ _ us hl => match us, hl with | [_], _ => rfl
  have D8 : DefF K mg d8 _ _ := ⟨F8, PySem.W.mg_of X G a8, b8⟩
  have F9 := fun_mk (st := at_ 12) l9 e9 k9
  have b9 := F9.binds (ps := ["told", "wanted"]) fun _ _ _ _ _ _ us hl => match us, hl with | [_, _], _ => rfl
  have D9 : DefF K mg d9 _ _ := ⟨F9, PySem.W.mg_of X G a9, b9⟩
  have F10 := fun_mk (st := at_ 13) l10 e10 k10
  have b10 := F10.binds (ps := ["size", "h", "fills"]) fun _ _ _ _ _ _ us hl => match us, hl with | [_, _, _], _ => rfl
  have D10 : DefF K mg d10 _ _ := ⟨F10, PySem.W.mg_of X G a10, b10⟩
  have F11 := fun_mk (st := at_ 14) l11 e11 k11
  have b11 := F11.binds (ps := ["one", "other"]) fun _ _ _ _ _ _ us hl => match us, hl with | [_, _], _ => rfl
  have D11 : DefF K mg d11 _ _ := ⟨F11, PySem.W.mg_of X G a11, b11⟩
  have F12 := fun_mk (st := at_ 15) l12 e12 k12
  have b12 := F12.binds (ps := ["tape"]) fun _ _ _ _ _ _ us hl => match us, hl with | [_], _ => rfl
  have D12 : DefF K mg d12 _ _ := ⟨F12, PySem.W.mg_of X G a12, b12⟩
  have F13 := fun_mk (st := at_ 16) l13 e13 k13
  have b13 := F13.binds (ps := ["tape", "numbers"]) fun _ _ _ _ _ _ us hl => match us, hl with | [_, _], _ => rfl
  have D13 : DefF K mg d13 _ _ := ⟨F13, PySem.W.mg_of X G a13, b13⟩
  have F14 := fun_mk (st := at_ 17) l14 e14 k14
  have b14 := F14.binds (ps := ["size", "h", "fills"]) fun _ _ _ _ _ _ us hl => match us, hl with | [_, _, _], _ => rfl
  have D14 : DefF K mg d14 _ _ := ⟨F14, PySem.W.mg_of X G a14, b14⟩
  have F15 := fun_mk (st := at_ 18) l15 e15 k15
  have b15 := F15.binds (ps := ["size", "h", "least"]) fun _ _ _ _ _ _ us hl => match us, hl with | [_, _, _], _ => rfl
  have D15 : DefF K mg d15 _ _ := ⟨F15, PySem.W.mg_of X G a15, b15⟩
  have F16 := fun_mk (st := at_ 19) l16 e16 k16
  have b16 := F16.binds (ps := ["size", "h", "fills"]) fun _ _ _ _ _ _ us hl => match us, hl with | [_, _, _], _ => rfl
  have D16 : DefF K mg d16 _ _ := ⟨F16, PySem.W.mg_of X G a16, b16⟩
  have F17 := fun_mk (st := at_ 20) l17 e17 k17
  have b17 := F17.binds (ps := ["word", "numbers"]) fun _ _ _ _ _ _ us hl => match us, hl with | [_, _], _ => rfl
  have D17 : DefF K mg d17 _ _ := ⟨F17, PySem.W.mg_of X G a17, b17⟩
  have F18 := fun_mk (st := at_ 21) l18 e18 k18
  have b18 := F18.binds (ps := ["script"]) fun _ _ _ _ _ _ us hl => match us, hl with | [_], _ => rfl
  have D18 : DefF K mg d18 _ _ := ⟨F18, PySem.W.mg_of X G a18, b18⟩
  refine ⟨_, fun s v => .of_eq (show bindArgs (PySem.W.fnOf "law" "law" (defArgs (at_ 21)) (defBody (at_ 21)) (defScope (at_ 21)) .none kV18 dc18 pm18 an18 cd18 ct18) _ = _ from rfl), fun base _ _ => all_ok (ds := defs) (fun d hd hb => ?_) (fun x hx => ?_) (fun d hd hb => ?_) (fun d hd hb => ?_) 200 18 d18 _ _ rfl rfl D18⟩
  · rw [ft_eq]
    simp only [defs, List.mem_cons, List.not_mem_nil, or_false] at hd
    rcases hd with rfl | rfl | rfl | rfl | rfl | rfl | rfl | rfl | rfl | rfl | rfl | rfl | rfl | rfl | rfl | rfl | rfl | rfl | rfl | rfl
    · exact c0
    · exact c1
    · exact c2
    · exact c3
    · exact c4
    · exact c5
    · exact c6
    · exact c7
    · exact c8
    · exact c9
    · exact c10
    · exact c11
    · exact c12
    · exact c13
    · exact c14
    · exact c15
    · exact c16
    · exact c17
    · exact c18
    · cases hb
  · simp only [bltNames, List.mem_cons, List.not_mem_nil, or_false] at hx
    rcases hx with rfl | rfl | rfl | rfl | rfl | rfl | rfl | rfl | rfl | rfl | rfl
    · exact PySem.W.mg_none_of X G z0
    · exact PySem.W.mg_none_of X G z1
    · exact PySem.W.mg_none_of X G z2
    · exact PySem.W.mg_none_of X G z3
    · exact PySem.W.mg_none_of X G z4
    · exact PySem.W.mg_none_of X G z5
    · exact PySem.W.mg_none_of X G z6
    · exact PySem.W.mg_none_of X G z7
    · exact PySem.W.mg_none_of X G z8
    · exact PySem.W.mg_none_of X G z9
    · exact PySem.W.mg_none_of X G z10
  · simp only [defs, List.mem_cons, List.not_mem_nil, or_false] at hd
    rcases hd with rfl | rfl | rfl | rfl | rfl | rfl | rfl | rfl | rfl | rfl | rfl | rfl | rfl | rfl | rfl | rfl | rfl | rfl | rfl | rfl
    · exact ⟨_, _, D0⟩
    · exact ⟨_, _, D1⟩
    · exact ⟨_, _, D2⟩
    · exact ⟨_, _, D3⟩
    · exact ⟨_, _, D4⟩
    · exact ⟨_, _, D5⟩
    · exact ⟨_, _, D6⟩
    · exact ⟨_, _, D7⟩
    · exact ⟨_, _, D8⟩
    · exact ⟨_, _, D9⟩
    · exact ⟨_, _, D10⟩
    · exact ⟨_, _, D11⟩
    · exact ⟨_, _, D12⟩
    · exact ⟨_, _, D13⟩
    · exact ⟨_, _, D14⟩
    · exact ⟨_, _, D15⟩
    · exact ⟨_, _, D16⟩
    · exact ⟨_, _, D17⟩
    · exact ⟨_, _, D18⟩
    · cases hb
  · simp only [defs, List.mem_cons, List.not_mem_nil, or_false] at hd
    rcases hd with rfl | rfl | rfl | rfl | rfl | rfl | rfl | rfl | rfl | rfl | rfl | rfl | rfl | rfl | rfl | rfl | rfl | rfl | rfl | rfl
    · cases hb
    · cases hb
    · cases hb
    · cases hb
    · cases hb
    · cases hb
    · cases hb
    · cases hb
    · cases hb
    · cases hb
    · cases hb
    · cases hb
    · cases hb
    · cases hb
    · cases hb
    · cases hb
    · cases hb
    · cases hb
    · cases hb
    · exact ⟨rfl, PySem.W.mg_of X G a19, rfl, rfl, rfl⟩
theorem law_ok (ns : List Int) (hl : ns.length ≤ 63) : ∃ h', runF (fnsOf defs) 200 18 [.ref 0] [.rol (ns.map fun n => .p (.int n))] = .ok (.p (.bl true)) h' := by
  obtain ⟨a, h, e, rfl⟩ := MP.sat_get (law_sat (k := 194) (S := ns) hl (Q := fun d _ => d = .p (.bl true)) (fun _ => rfl))
  unfold F at e
  rw [fns_eq]
  exact ⟨h, e⟩
end MP.K33
open PySem PySem.W PyProof.Rows
set_option maxRecDepth 100000 in
set_option maxHeartbeats 0 in
theorem PySem.Challenge.cw_sharepage_k33_bound_steps_factor_most_fi_holds : PySem.Challenge.rw_sharepage_k33_bound_steps_factor_most_fi.Holds := by
  w_on; o_law; k_head; (case hw => w_witness2)
  k_fill
  refine L2.walk_of (l := PySem.Challenge.rw_sharepage_k33_bound_steps_factor_most_fi) (n := 63) (k := 200) (x := "script") (CX := fun _ => L2.CX0) (sp := fun w => MP.SpF _ 1 (MP.runF (MP.fnsOf MP.K33.defs) 200 18)) rfl (by decide) rfl ⟨rfl, by decide, by decide⟩ (fun w h Y => PySem.W.kIn_of Y) ?F (fun _ _ a ns hl hO hS => MP.law_true hS hO (MP.K33.law_ok ns hl)) (fun _ _ _ _ _ z => z)
  case F =>
    intro w mg fa h KX G hmg
    refine' MP.K33.all_mk KX G hmg ?a0 ?l0 ?e0 ?k0 ?a1 ?l1 ?e1 ?k1 ?a2 ?l2 ?e2 ?k2 ?a3 ?l3 ?e3 ?k3 ?a4 ?l4 ?e4 ?k4 ?a5 ?l5 ?e5 ?k5 ?a6 ?l6 ?e6 ?k6 ?a7 ?l7 ?e7 ?k7 ?a8 ?l8 ?e8 ?k8 ?a9 ?l9 ?e9 ?k9 ?a10 ?l10 ?e10 ?k10 ?a11 ?l11 ?e11 ?k11 ?a12 ?l12 ?e12 ?k12 ?a13 ?l13 ?e13 ?k13 ?a14 ?l14 ?e14 ?k14 ?a15 ?l15 ?e15 ?k15 ?a16 ?l16 ?e16 ?k16 ?a17 ?l17 ?e17 ?k17 ?a18 ?l18 ?e18 ?k18 ?a19 ?z0 ?z1 ?z2 ?z3 ?z4 ?z5 ?z6 ?z7 ?z8 ?z9 ?z10
    (case a0 => k_is)
    (case l0 => k_is)
    (case e0 => k_is)
    (case k0 => k_is)
    (case a1 => k_is)
    (case l1 => k_is)
    (case e1 => k_is)
    (case k1 => k_is)
    (case a2 => k_is)
    (case l2 => k_is)
    (case e2 => k_is)
    (case k2 => k_is)
    (case a3 => k_is)
    (case l3 => k_is)
    (case e3 => k_is)
    (case k3 => k_is)
    (case a4 => k_is)
    (case l4 => k_is)
    (case e4 => k_is)
    (case k4 => k_is)
    (case a5 => k_is)
    (case l5 => k_is)
    (case e5 => k_is)
    (case k5 => k_is)
    (case a6 => k_is)
    (case l6 => k_is)
    (case e6 => k_is)
    (case k6 => k_is)
    (case a7 => k_is)
    (case l7 => k_is)
    (case e7 => k_is)
    (case k7 => k_is)
    (case a8 => k_is)
    (case l8 => k_is)
    (case e8 => k_is)
    (case k8 => k_is)
    (case a9 => k_is)
    (case l9 => k_is)
    (case e9 => k_is)
    (case k9 => k_is)
    (case a10 => k_is)
    (case l10 => k_is)
    (case e10 => k_is)
    (case k10 => k_is)
    (case a11 => k_is)
    (case l11 => k_is)
    (case e11 => k_is)
    (case k11 => k_is)
    (case a12 => k_is)
    (case l12 => k_is)
    (case e12 => k_is)
    (case k12 => k_is)
    (case a13 => k_is)
    (case l13 => k_is)
    (case e13 => k_is)
    (case k13 => k_is)
    (case a14 => k_is)
    (case l14 => k_is)
    (case e14 => k_is)
    (case k14 => k_is)
    (case a15 => k_is)
    (case l15 => k_is)
    (case e15 => k_is)
    (case k15 => k_is)
    (case a16 => k_is)
    (case l16 => k_is)
    (case e16 => k_is)
    (case k16 => k_is)
    (case a17 => k_is)
    (case l17 => k_is)
    (case e17 => k_is)
    (case k17 => k_is)
    (case a18 => k_is)
    (case l18 => k_is)
    (case e18 => k_is)
    (case k18 => k_is)
    (case a19 => k_is)
    (case z0 => k_is)
    (case z1 => k_is)
    (case z2 => k_is)
    (case z3 => k_is)
    (case z4 => k_is)
    (case z5 => k_is)
    (case z6 => k_is)
    (case z7 => k_is)
    (case z8 => k_is)
    (case z9 => k_is)
    (case z10 => k_is)
end
